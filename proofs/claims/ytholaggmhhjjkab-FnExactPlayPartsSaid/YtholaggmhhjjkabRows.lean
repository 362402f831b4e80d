/-
  No cell of these rows narrows 'for every input' (looked for: loops, veiled, ifaces, maps, wideKeys, modest, calm, conditions, laid).
  DERIVED. THE GIVEN ROWS OF THIS SEAT. 4 by the template 'for every input the law returns true; each argument reads behind the call as it read before'; 0 by the template 'total and deterministic' (their statements: YtholaggmhhjjkabTotals.lean).
  GIVEN WITH THE SEED: the statements are not yours to turn. If you find one false, say at which input.
  Laid BY PROGRAM, IN A SANDBOX (cutbox-rows.mjs): the forced cells as the released guide's own fill.sh prints them over the translation da75070a96d9144b… (all of the seat's roots in one cut). By AI agents, Wed Nov 11 2026. No macro, syntax, notation, axiom, sorry.
-/
import Derived.Test.YtholaggmhhjjkabChecked
import GoSem.Claim
import GoSem.ClaimJoined
import GoSem.ClaimMapViews
import Derived.JoinedTies
import Derived.KernelRfl
namespace Go.Proofs.Ytholaggmhhjjkab
/- THE CELL 'sum', in the pinned program and in every row, IS THE sha256 OF THE DUMP (.gsa) THAT YtholaggmhhjjkabProg.lean LOADS. Nothing in Lean hashes anything: it is a label: what it is worth is what the hold of that sum in a sandbox is worth. -/
noncomputable def Try.pinned : Pinned := { name := "ytholaggmhhjjkab", sum := "da75070a96d9144b3b3b0a0411ee23a3ba34fb3bf52406660b1b44168bea4fa1", checked := Try.checked }
namespace Rows
def none {H : Type} : Left H := { results := [], args := [] }

/-- 'laws.FnExactMovedCopies': WHATEVER THE INPUT: true; the input reads as it did. -/
def fnExactMovedCopiesSpec : ChangeSpec := { name := "fnExactMovedCopies", fn := fun _ => fun
  | [d1, d2, d3] => { results := [.lit (.bool true)], args := [d1, d2, d3] }
  | _ => none }
def fnExactMovedCopiesRow : OpenClaim := { program := "ytholaggmhhjjkab", sum := "da75070a96d9144b3b3b0a0411ee23a3ba34fb3bf52406660b1b44168bea4fa1", func := "loop.example/g01340/laws.FnExactMovedCopies", spec := "fnExactMovedCopies", unfollowed := true, recurses := true, apart := false }
def FnExactMovedCopiesSaid : Prop := fnExactMovedCopiesRow.holds Try.pinned (OpenSpec.ofChange fnExactMovedCopiesSpec)

/-- ITS FALSE NEIGHBOUR: 'it returns false'. Refute it at one input. -/
def fnExactMovedCopiesWrong : ChangeSpec := { name := "fnExactMovedCopies", fn := fun _ => fun
  | [d1, d2, d3] => { results := [.lit (.bool false)], args := [d1, d2, d3] }
  | _ => none }
def FnExactMovedCopiesWrongFalsely : Prop := fnExactMovedCopiesRow.holds Try.pinned (OpenSpec.ofChange fnExactMovedCopiesWrong)

/-- 'laws.FnExactFollowBook': WHATEVER THE INPUT: true; the input reads as it did. -/
def fnExactFollowBookSpec : ChangeSpec := { name := "fnExactFollowBook", fn := fun _ => fun
  | [d1, d2] => { results := [.lit (.bool true)], args := [d1, d2] }
  | _ => none }
def fnExactFollowBookRow : OpenClaim := { program := "ytholaggmhhjjkab", sum := "da75070a96d9144b3b3b0a0411ee23a3ba34fb3bf52406660b1b44168bea4fa1", func := "loop.example/g01340/laws.FnExactFollowBook", spec := "fnExactFollowBook", unfollowed := true, recurses := true, apart := false }
def FnExactFollowBookSaid : Prop := fnExactFollowBookRow.holds Try.pinned (OpenSpec.ofChange fnExactFollowBookSpec)

/-- ITS FALSE NEIGHBOUR: 'it returns false'. Refute it at one input. -/
def fnExactFollowBookWrong : ChangeSpec := { name := "fnExactFollowBook", fn := fun _ => fun
  | [d1, d2] => { results := [.lit (.bool false)], args := [d1, d2] }
  | _ => none }
def FnExactFollowBookWrongFalsely : Prop := fnExactFollowBookRow.holds Try.pinned (OpenSpec.ofChange fnExactFollowBookWrong)

/-- 'laws.FnExactTrackOf': WHATEVER THE INPUT: true; the input reads as it did. -/
def fnExactTrackOfSpec : ChangeSpec := { name := "fnExactTrackOf", fn := fun _ => fun
  | [d1, d2] => { results := [.lit (.bool true)], args := [d1, d2] }
  | _ => none }
def fnExactTrackOfRow : OpenClaim := { program := "ytholaggmhhjjkab", sum := "da75070a96d9144b3b3b0a0411ee23a3ba34fb3bf52406660b1b44168bea4fa1", func := "loop.example/g01340/laws.FnExactTrackOf", spec := "fnExactTrackOf", unfollowed := true, recurses := true, apart := false }
def FnExactTrackOfSaid : Prop := fnExactTrackOfRow.holds Try.pinned (OpenSpec.ofChange fnExactTrackOfSpec)

/-- ITS FALSE NEIGHBOUR: 'it returns false'. Refute it at one input. -/
def fnExactTrackOfWrong : ChangeSpec := { name := "fnExactTrackOf", fn := fun _ => fun
  | [d1, d2] => { results := [.lit (.bool false)], args := [d1, d2] }
  | _ => none }
def FnExactTrackOfWrongFalsely : Prop := fnExactTrackOfRow.holds Try.pinned (OpenSpec.ofChange fnExactTrackOfWrong)

/-- 'laws.FnExactPlayParts': WHATEVER THE INPUT: true; the input reads as it did. -/
def fnExactPlayPartsSpec : ChangeSpec := { name := "fnExactPlayParts", fn := fun _ => fun
  | [d1, d2, d3] => { results := [.lit (.bool true)], args := [d1, d2, d3] }
  | _ => none }
def fnExactPlayPartsRow : OpenClaim := { program := "ytholaggmhhjjkab", sum := "da75070a96d9144b3b3b0a0411ee23a3ba34fb3bf52406660b1b44168bea4fa1", func := "loop.example/g01340/laws.FnExactPlayParts", spec := "fnExactPlayParts", unfollowed := true, recurses := true, apart := false }
def FnExactPlayPartsSaid : Prop := fnExactPlayPartsRow.holds Try.pinned (OpenSpec.ofChange fnExactPlayPartsSpec)

/-- ITS FALSE NEIGHBOUR: 'it returns false'. Refute it at one input. -/
def fnExactPlayPartsWrong : ChangeSpec := { name := "fnExactPlayParts", fn := fun _ => fun
  | [d1, d2, d3] => { results := [.lit (.bool false)], args := [d1, d2, d3] }
  | _ => none }
def FnExactPlayPartsWrongFalsely : Prop := fnExactPlayPartsRow.holds Try.pinned (OpenSpec.ofChange fnExactPlayPartsWrong)

/- THE SECOND FORM. 'bulk': how many values and letters a reading holds, each counted each time it is reached (what is shared counts as often as it is met; a slice's spare places count too). A statement '..UptoSaid' is the law's where the arguments, and the package variables that the reading takes, are together of bulk at most 1048576: NARROWER than '..Said'. Prove '..Said' where nothing that the law and all that it calls make is longer than what came in: it says more and counts as full. Else prove '..UptoSaid'. A law counts once. -/
mutual
def uptoBulk {H : Type} : DataW H → Nat
  | .lit (.string bytes) => bytes.length + 1
  | .lit _ => 1
  | .nil => 1
  | .ptr d => uptoBulk d + 1
  | .slice elems spare => uptoBulkAll elems + uptoBulkAll spare + 1
  | .agg parts => uptoBulkAll parts + 1
  | .iface _ d => uptoBulk d + 1
  | .map entries => uptoBulkEntries entries + 1
  | .held _ => 1
def uptoBulkAll {H : Type} : List (DataW H) → Nat
  | [] => 0
  | d :: r => uptoBulk d + uptoBulkAll r
def uptoBulkEntries {H : Type} : List (Lit × DataW H) → Nat
  | [] => 0
  | x :: r => uptoBulkEntry x + uptoBulkEntries r
def uptoBulkEntry {H : Type} : Lit × DataW H → Nat
  | (.string bytes, d) => bytes.length + uptoBulk d + 1
  | (_, d) => uptoBulk d + 1
 end
def uptoSmall : (H : Type) → List (DataW H) → Bool := fun _ ds => decide (uptoBulkAll ds ≤ 1048576)
def OpenSpec.upto (s : _root_.Go.ChangeSpec) : _root_.Go.OpenSpec := { _root_.Go.OpenSpec.ofChange s with cond := some uptoSmall }

/-- 'laws.FnExactMovedCopies', WHERE WHAT IT READS IS OF BULK AT MOST 1048576: true; the input reads as it did. -/
def fnExactMovedCopiesUptoRow : OpenClaim := { program := "ytholaggmhhjjkab", sum := "da75070a96d9144b3b3b0a0411ee23a3ba34fb3bf52406660b1b44168bea4fa1", func := "loop.example/g01340/laws.FnExactMovedCopies", spec := "fnExactMovedCopies", unfollowed := true, recurses := true, apart := false, narrowed := true }
def FnExactMovedCopiesUptoSaid : Prop := fnExactMovedCopiesUptoRow.holds Try.pinned (OpenSpec.upto fnExactMovedCopiesSpec)

/-- 'laws.FnExactFollowBook', WHERE WHAT IT READS IS OF BULK AT MOST 1048576: true; the input reads as it did. -/
def fnExactFollowBookUptoRow : OpenClaim := { program := "ytholaggmhhjjkab", sum := "da75070a96d9144b3b3b0a0411ee23a3ba34fb3bf52406660b1b44168bea4fa1", func := "loop.example/g01340/laws.FnExactFollowBook", spec := "fnExactFollowBook", unfollowed := true, recurses := true, apart := false, narrowed := true }
def FnExactFollowBookUptoSaid : Prop := fnExactFollowBookUptoRow.holds Try.pinned (OpenSpec.upto fnExactFollowBookSpec)

/-- 'laws.FnExactTrackOf', WHERE WHAT IT READS IS OF BULK AT MOST 1048576: true; the input reads as it did. -/
def fnExactTrackOfUptoRow : OpenClaim := { program := "ytholaggmhhjjkab", sum := "da75070a96d9144b3b3b0a0411ee23a3ba34fb3bf52406660b1b44168bea4fa1", func := "loop.example/g01340/laws.FnExactTrackOf", spec := "fnExactTrackOf", unfollowed := true, recurses := true, apart := false, narrowed := true }
def FnExactTrackOfUptoSaid : Prop := fnExactTrackOfUptoRow.holds Try.pinned (OpenSpec.upto fnExactTrackOfSpec)

/-- 'laws.FnExactPlayParts', WHERE WHAT IT READS IS OF BULK AT MOST 1048576: true; the input reads as it did. -/
def fnExactPlayPartsUptoRow : OpenClaim := { program := "ytholaggmhhjjkab", sum := "da75070a96d9144b3b3b0a0411ee23a3ba34fb3bf52406660b1b44168bea4fa1", func := "loop.example/g01340/laws.FnExactPlayParts", spec := "fnExactPlayParts", unfollowed := true, recurses := true, apart := false, narrowed := true }
def FnExactPlayPartsUptoSaid : Prop := fnExactPlayPartsUptoRow.holds Try.pinned (OpenSpec.upto fnExactPlayPartsSpec)

end Rows
end Go.Proofs.Ytholaggmhhjjkab
