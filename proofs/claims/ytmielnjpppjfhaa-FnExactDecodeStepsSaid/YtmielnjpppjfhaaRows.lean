/-
  No cell of these rows narrows 'for every input' (looked for: loops, veiled, ifaces, maps, wideKeys, modest, calm, conditions, laid).
  DERIVED. THE GIVEN ROWS OF THIS SEAT. 6 by the template 'for every input the law returns true; each argument reads behind the call as it read before'; 0 by the template 'total and deterministic' (their statements: YtmielnjpppjfhaaTotals.lean).
  GIVEN WITH THE SEED: the statements are not yours to turn. If you find one false, say at which input.
  Laid BY PROGRAM, IN A SANDBOX (cutbox-rows.mjs): the forced cells as the released guide's own fill.sh prints them over the translation 55fd784440612660… (all of the seat's roots in one cut). By AI agents, Wed Nov 11 2026. No macro, syntax, notation, axiom, sorry.
-/
import Derived.Test.YtmielnjpppjfhaaChecked
import GoSem.Claim
import GoSem.ClaimJoined
import GoSem.ClaimMapViews
import Derived.JoinedTies
import Derived.KernelRfl
namespace Go.Proofs.Ytmielnjpppjfhaa
/- THE CELL 'sum', in the pinned program and in every row, IS THE sha256 OF THE DUMP (.gsa) THAT YtmielnjpppjfhaaProg.lean LOADS. Nothing in Lean hashes anything: it is a label: what it is worth is what the hold of that sum in a sandbox is worth. -/
noncomputable def Try.pinned : Pinned := { name := "ytmielnjpppjfhaa", sum := "55fd784440612660ecb4a7cf9216171b5ebdcaae78543d74af21b97b51a13c55", checked := Try.checked }
namespace Rows
def none {H : Type} : Left H := { results := [], args := [] }

/-- 'laws.FnExactPanScene': WHATEVER THE INPUT: true; the input reads as it did. -/
def fnExactPanSceneSpec : ChangeSpec := { name := "fnExactPanScene", fn := fun _ => fun
  | [d1, d2, d3, d4, d5, d6] => { results := [.lit (.bool true)], args := [d1, d2, d3, d4, d5, d6] }
  | _ => none }
def fnExactPanSceneRow : OpenClaim := { program := "ytmielnjpppjfhaa", sum := "55fd784440612660ecb4a7cf9216171b5ebdcaae78543d74af21b97b51a13c55", func := "loop.example/g01340/laws.FnExactPanScene", spec := "fnExactPanScene", unfollowed := true, recurses := true, apart := false }
def FnExactPanSceneSaid : Prop := fnExactPanSceneRow.holds Try.pinned (OpenSpec.ofChange fnExactPanSceneSpec)

/-- ITS FALSE NEIGHBOUR: 'it returns false'. Refute it at one input. -/
def fnExactPanSceneWrong : ChangeSpec := { name := "fnExactPanScene", fn := fun _ => fun
  | [d1, d2, d3, d4, d5, d6] => { results := [.lit (.bool false)], args := [d1, d2, d3, d4, d5, d6] }
  | _ => none }
def FnExactPanSceneWrongFalsely : Prop := fnExactPanSceneRow.holds Try.pinned (OpenSpec.ofChange fnExactPanSceneWrong)

/-- 'laws.FnExactCopiesOf': WHATEVER THE INPUT: true; the input reads as it did. -/
def fnExactCopiesOfSpec : ChangeSpec := { name := "fnExactCopiesOf", fn := fun _ => fun
  | [d1, d2] => { results := [.lit (.bool true)], args := [d1, d2] }
  | _ => none }
def fnExactCopiesOfRow : OpenClaim := { program := "ytmielnjpppjfhaa", sum := "55fd784440612660ecb4a7cf9216171b5ebdcaae78543d74af21b97b51a13c55", func := "loop.example/g01340/laws.FnExactCopiesOf", spec := "fnExactCopiesOf", unfollowed := true, recurses := true, apart := false }
def FnExactCopiesOfSaid : Prop := fnExactCopiesOfRow.holds Try.pinned (OpenSpec.ofChange fnExactCopiesOfSpec)

/-- ITS FALSE NEIGHBOUR: 'it returns false'. Refute it at one input. -/
def fnExactCopiesOfWrong : ChangeSpec := { name := "fnExactCopiesOf", fn := fun _ => fun
  | [d1, d2] => { results := [.lit (.bool false)], args := [d1, d2] }
  | _ => none }
def FnExactCopiesOfWrongFalsely : Prop := fnExactCopiesOfRow.holds Try.pinned (OpenSpec.ofChange fnExactCopiesOfWrong)

/-- 'laws.FnLight': WHATEVER THE INPUT: true; the input reads as it did. -/
def fnLightSpec : ChangeSpec := { name := "fnLight", fn := fun _ => fun
  | [d1, d2] => { results := [.lit (.bool true)], args := [d1, d2] }
  | _ => none }
def fnLightRow : OpenClaim := { program := "ytmielnjpppjfhaa", sum := "55fd784440612660ecb4a7cf9216171b5ebdcaae78543d74af21b97b51a13c55", func := "loop.example/g01340/laws.FnLight", spec := "fnLight", unfollowed := true, recurses := true, apart := false }
def FnLightSaid : Prop := fnLightRow.holds Try.pinned (OpenSpec.ofChange fnLightSpec)

/-- ITS FALSE NEIGHBOUR: 'it returns false'. Refute it at one input. -/
def fnLightWrong : ChangeSpec := { name := "fnLight", fn := fun _ => fun
  | [d1, d2] => { results := [.lit (.bool false)], args := [d1, d2] }
  | _ => none }
def FnLightWrongFalsely : Prop := fnLightRow.holds Try.pinned (OpenSpec.ofChange fnLightWrong)

/-- 'laws.FnExactDecodeSteps': WHATEVER THE INPUT: true; the input reads as it did. -/
def fnExactDecodeStepsSpec : ChangeSpec := { name := "fnExactDecodeSteps", fn := fun _ => fun
  | [d] => { results := [.lit (.bool true)], args := [d] }
  | _ => none }
def fnExactDecodeStepsRow : OpenClaim := { program := "ytmielnjpppjfhaa", sum := "55fd784440612660ecb4a7cf9216171b5ebdcaae78543d74af21b97b51a13c55", func := "loop.example/g01340/laws.FnExactDecodeSteps", spec := "fnExactDecodeSteps", apart := false }
def FnExactDecodeStepsSaid : Prop := fnExactDecodeStepsRow.holds Try.pinned (OpenSpec.ofChange fnExactDecodeStepsSpec)

/-- ITS FALSE NEIGHBOUR: 'it returns false'. Refute it at one input. -/
def fnExactDecodeStepsWrong : ChangeSpec := { name := "fnExactDecodeSteps", fn := fun _ => fun
  | [d] => { results := [.lit (.bool false)], args := [d] }
  | _ => none }
def FnExactDecodeStepsWrongFalsely : Prop := fnExactDecodeStepsRow.holds Try.pinned (OpenSpec.ofChange fnExactDecodeStepsWrong)

/-- 'laws.FnExactMeetTicks': WHATEVER THE INPUT: true; the input reads as it did. -/
def fnExactMeetTicksSpec : ChangeSpec := { name := "fnExactMeetTicks", fn := fun _ => fun
  | [d1, d2, d3, d4] => { results := [.lit (.bool true)], args := [d1, d2, d3, d4] }
  | _ => none }
def fnExactMeetTicksRow : OpenClaim := { program := "ytmielnjpppjfhaa", sum := "55fd784440612660ecb4a7cf9216171b5ebdcaae78543d74af21b97b51a13c55", func := "loop.example/g01340/laws.FnExactMeetTicks", spec := "fnExactMeetTicks", unfollowed := true, recurses := true, apart := false }
def FnExactMeetTicksSaid : Prop := fnExactMeetTicksRow.holds Try.pinned (OpenSpec.ofChange fnExactMeetTicksSpec)

/-- ITS FALSE NEIGHBOUR: 'it returns false'. Refute it at one input. -/
def fnExactMeetTicksWrong : ChangeSpec := { name := "fnExactMeetTicks", fn := fun _ => fun
  | [d1, d2, d3, d4] => { results := [.lit (.bool false)], args := [d1, d2, d3, d4] }
  | _ => none }
def FnExactMeetTicksWrongFalsely : Prop := fnExactMeetTicksRow.holds Try.pinned (OpenSpec.ofChange fnExactMeetTicksWrong)

/-- 'laws.FnExactEncodeBook': WHATEVER THE INPUT: true; the input reads as it did. -/
def fnExactEncodeBookSpec : ChangeSpec := { name := "fnExactEncodeBook", fn := fun _ => fun
  | [d] => { results := [.lit (.bool true)], args := [d] }
  | _ => none }
def fnExactEncodeBookRow : OpenClaim := { program := "ytmielnjpppjfhaa", sum := "55fd784440612660ecb4a7cf9216171b5ebdcaae78543d74af21b97b51a13c55", func := "loop.example/g01340/laws.FnExactEncodeBook", spec := "fnExactEncodeBook", unfollowed := true, recurses := true, apart := false }
def FnExactEncodeBookSaid : Prop := fnExactEncodeBookRow.holds Try.pinned (OpenSpec.ofChange fnExactEncodeBookSpec)

/-- ITS FALSE NEIGHBOUR: 'it returns false'. Refute it at one input. -/
def fnExactEncodeBookWrong : ChangeSpec := { name := "fnExactEncodeBook", fn := fun _ => fun
  | [d] => { results := [.lit (.bool false)], args := [d] }
  | _ => none }
def FnExactEncodeBookWrongFalsely : Prop := fnExactEncodeBookRow.holds Try.pinned (OpenSpec.ofChange fnExactEncodeBookWrong)

/- THE SECOND FORM. 'bulk': how many values and letters a reading holds, each counted each time it is reached (what is shared counts as often as it is met; a slice's spare places count too). A statement '..UptoSaid' is the law's where the arguments, and the package variables that the reading takes, are together of bulk at most 1048576: NARROWER than '..Said'. Prove '..Said' where nothing that the law and all that it calls make is longer than what came in: it says more and counts as full. Else prove '..UptoSaid'. A law counts once. -/
mutual
def uptoBulk {H : Type} : DataW H → Nat
  | .lit (.string bytes) => bytes.length + 1
  | .lit _ => 1
  | .nil => 1
  | .ptr d => uptoBulk d + 1
  | .slice elems spare => uptoBulkAll elems + uptoBulkAll spare + 1
  | .agg parts => uptoBulkAll parts + 1
  | .iface _ d => uptoBulk d + 1
  | .map entries => uptoBulkEntries entries + 1
  | .held _ => 1
def uptoBulkAll {H : Type} : List (DataW H) → Nat
  | [] => 0
  | d :: r => uptoBulk d + uptoBulkAll r
def uptoBulkEntries {H : Type} : List (Lit × DataW H) → Nat
  | [] => 0
  | x :: r => uptoBulkEntry x + uptoBulkEntries r
def uptoBulkEntry {H : Type} : Lit × DataW H → Nat
  | (.string bytes, d) => bytes.length + uptoBulk d + 1
  | (_, d) => uptoBulk d + 1
 end
def uptoSmall : (H : Type) → List (DataW H) → Bool := fun _ ds => decide (uptoBulkAll ds ≤ 1048576)
def OpenSpec.upto (s : _root_.Go.ChangeSpec) : _root_.Go.OpenSpec := { _root_.Go.OpenSpec.ofChange s with cond := some uptoSmall }

/-- 'laws.FnExactPanScene', WHERE WHAT IT READS IS OF BULK AT MOST 1048576: true; the input reads as it did. -/
def fnExactPanSceneUptoRow : OpenClaim := { program := "ytmielnjpppjfhaa", sum := "55fd784440612660ecb4a7cf9216171b5ebdcaae78543d74af21b97b51a13c55", func := "loop.example/g01340/laws.FnExactPanScene", spec := "fnExactPanScene", unfollowed := true, recurses := true, apart := false, narrowed := true }
def FnExactPanSceneUptoSaid : Prop := fnExactPanSceneUptoRow.holds Try.pinned (OpenSpec.upto fnExactPanSceneSpec)

/-- 'laws.FnExactCopiesOf', WHERE WHAT IT READS IS OF BULK AT MOST 1048576: true; the input reads as it did. -/
def fnExactCopiesOfUptoRow : OpenClaim := { program := "ytmielnjpppjfhaa", sum := "55fd784440612660ecb4a7cf9216171b5ebdcaae78543d74af21b97b51a13c55", func := "loop.example/g01340/laws.FnExactCopiesOf", spec := "fnExactCopiesOf", unfollowed := true, recurses := true, apart := false, narrowed := true }
def FnExactCopiesOfUptoSaid : Prop := fnExactCopiesOfUptoRow.holds Try.pinned (OpenSpec.upto fnExactCopiesOfSpec)

/-- 'laws.FnLight', WHERE WHAT IT READS IS OF BULK AT MOST 1048576: true; the input reads as it did. -/
def fnLightUptoRow : OpenClaim := { program := "ytmielnjpppjfhaa", sum := "55fd784440612660ecb4a7cf9216171b5ebdcaae78543d74af21b97b51a13c55", func := "loop.example/g01340/laws.FnLight", spec := "fnLight", unfollowed := true, recurses := true, apart := false, narrowed := true }
def FnLightUptoSaid : Prop := fnLightUptoRow.holds Try.pinned (OpenSpec.upto fnLightSpec)

/-- 'laws.FnExactDecodeSteps', WHERE WHAT IT READS IS OF BULK AT MOST 1048576: true; the input reads as it did. -/
def fnExactDecodeStepsUptoRow : OpenClaim := { program := "ytmielnjpppjfhaa", sum := "55fd784440612660ecb4a7cf9216171b5ebdcaae78543d74af21b97b51a13c55", func := "loop.example/g01340/laws.FnExactDecodeSteps", spec := "fnExactDecodeSteps", apart := false, narrowed := true }
def FnExactDecodeStepsUptoSaid : Prop := fnExactDecodeStepsUptoRow.holds Try.pinned (OpenSpec.upto fnExactDecodeStepsSpec)

/-- 'laws.FnExactMeetTicks', WHERE WHAT IT READS IS OF BULK AT MOST 1048576: true; the input reads as it did. -/
def fnExactMeetTicksUptoRow : OpenClaim := { program := "ytmielnjpppjfhaa", sum := "55fd784440612660ecb4a7cf9216171b5ebdcaae78543d74af21b97b51a13c55", func := "loop.example/g01340/laws.FnExactMeetTicks", spec := "fnExactMeetTicks", unfollowed := true, recurses := true, apart := false, narrowed := true }
def FnExactMeetTicksUptoSaid : Prop := fnExactMeetTicksUptoRow.holds Try.pinned (OpenSpec.upto fnExactMeetTicksSpec)

/-- 'laws.FnExactEncodeBook', WHERE WHAT IT READS IS OF BULK AT MOST 1048576: true; the input reads as it did. -/
def fnExactEncodeBookUptoRow : OpenClaim := { program := "ytmielnjpppjfhaa", sum := "55fd784440612660ecb4a7cf9216171b5ebdcaae78543d74af21b97b51a13c55", func := "loop.example/g01340/laws.FnExactEncodeBook", spec := "fnExactEncodeBook", unfollowed := true, recurses := true, apart := false, narrowed := true }
def FnExactEncodeBookUptoSaid : Prop := fnExactEncodeBookUptoRow.holds Try.pinned (OpenSpec.upto fnExactEncodeBookSpec)

end Rows
end Go.Proofs.Ytmielnjpppjfhaa
