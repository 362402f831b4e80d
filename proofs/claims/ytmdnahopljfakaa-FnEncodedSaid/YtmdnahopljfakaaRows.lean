/-
  No cell of these rows narrows 'for every input' (looked for: loops, veiled, ifaces, maps, wideKeys, modest, calm, conditions, laid).
  DERIVED. THE GIVEN ROWS OF THIS SEAT. 3 by the template 'for every input the law returns true; each argument reads behind the call as it read before'; 0 by the template 'total and deterministic' (their statements: YtmdnahopljfakaaTotals.lean).
  GIVEN WITH THE SEED: the statements are not yours to turn. If you find one false, say at which input.
  Laid BY PROGRAM, IN A SANDBOX (cutbox-rows.mjs): the forced cells as the released guide's own fill.sh prints them over the translation f8622d0e35954083… (all of the seat's roots in one cut). By AI agents, Wed Nov 11 2026. No macro, syntax, notation, axiom, sorry.
-/
import Derived.Test.YtmdnahopljfakaaChecked
import GoSem.Claim
import GoSem.ClaimJoined
import GoSem.ClaimMapViews
import Derived.JoinedTies
import Derived.KernelRfl
namespace Go.Proofs.Ytmdnahopljfakaa
/- THE CELL 'sum', in the pinned program and in every row, IS THE sha256 OF THE DUMP (.gsa) THAT YtmdnahopljfakaaProg.lean LOADS. Nothing in Lean hashes anything: it is a label: what it is worth is what the hold of that sum in a sandbox is worth. -/
noncomputable def Try.pinned : Pinned := { name := "ytmdnahopljfakaa", sum := "f8622d0e3595408389a177c59a2ea042726df7a9f233cfecd5844d5b959aadcd", checked := Try.checked }
namespace Rows
def none {H : Type} : Left H := { results := [], args := [] }

/-- 'laws.FnTopOfAll': WHATEVER THE INPUT: true; the input reads as it did. -/
def fnTopOfAllSpec : ChangeSpec := { name := "fnTopOfAll", fn := fun _ => fun
  | [d1, d2, d3, d4, d5] => { results := [.lit (.bool true)], args := [d1, d2, d3, d4, d5] }
  | _ => none }
def fnTopOfAllRow : OpenClaim := { program := "ytmdnahopljfakaa", sum := "f8622d0e3595408389a177c59a2ea042726df7a9f233cfecd5844d5b959aadcd", func := "loop.example/g01340/laws.FnTopOfAll", spec := "fnTopOfAll", unfollowed := true, recurses := true, apart := false }
def FnTopOfAllSaid : Prop := fnTopOfAllRow.holds Try.pinned (OpenSpec.ofChange fnTopOfAllSpec)

/-- ITS FALSE NEIGHBOUR: 'it returns false'. Refute it at one input. -/
def fnTopOfAllWrong : ChangeSpec := { name := "fnTopOfAll", fn := fun _ => fun
  | [d1, d2, d3, d4, d5] => { results := [.lit (.bool false)], args := [d1, d2, d3, d4, d5] }
  | _ => none }
def FnTopOfAllWrongFalsely : Prop := fnTopOfAllRow.holds Try.pinned (OpenSpec.ofChange fnTopOfAllWrong)

/-- 'laws.FnBlobs': WHATEVER THE INPUT: true; the input reads as it did. -/
def fnBlobsSpec : ChangeSpec := { name := "fnBlobs", fn := fun _ => fun
  | [d1, d2] => { results := [.lit (.bool true)], args := [d1, d2] }
  | _ => none }
def fnBlobsRow : OpenClaim := { program := "ytmdnahopljfakaa", sum := "f8622d0e3595408389a177c59a2ea042726df7a9f233cfecd5844d5b959aadcd", func := "loop.example/g01340/laws.FnBlobs", spec := "fnBlobs", unfollowed := true, recurses := true, apart := false }
def FnBlobsSaid : Prop := fnBlobsRow.holds Try.pinned (OpenSpec.ofChange fnBlobsSpec)

/-- ITS FALSE NEIGHBOUR: 'it returns false'. Refute it at one input. -/
def fnBlobsWrong : ChangeSpec := { name := "fnBlobs", fn := fun _ => fun
  | [d1, d2] => { results := [.lit (.bool false)], args := [d1, d2] }
  | _ => none }
def FnBlobsWrongFalsely : Prop := fnBlobsRow.holds Try.pinned (OpenSpec.ofChange fnBlobsWrong)

/-- 'laws.FnEncoded': WHATEVER THE INPUT: true; the input reads as it did. -/
def fnEncodedSpec : ChangeSpec := { name := "fnEncoded", fn := fun _ => fun
  | [d1, d2] => { results := [.lit (.bool true)], args := [d1, d2] }
  | _ => none }
def fnEncodedRow : OpenClaim := { program := "ytmdnahopljfakaa", sum := "f8622d0e3595408389a177c59a2ea042726df7a9f233cfecd5844d5b959aadcd", func := "loop.example/g01340/laws.FnEncoded", spec := "fnEncoded", unfollowed := true, recurses := true, apart := false }
def FnEncodedSaid : Prop := fnEncodedRow.holds Try.pinned (OpenSpec.ofChange fnEncodedSpec)

/-- ITS FALSE NEIGHBOUR: 'it returns false'. Refute it at one input. -/
def fnEncodedWrong : ChangeSpec := { name := "fnEncoded", fn := fun _ => fun
  | [d1, d2] => { results := [.lit (.bool false)], args := [d1, d2] }
  | _ => none }
def FnEncodedWrongFalsely : Prop := fnEncodedRow.holds Try.pinned (OpenSpec.ofChange fnEncodedWrong)

/- THE SECOND FORM. 'bulk': how many values and letters a reading holds, each counted each time it is reached (what is shared counts as often as it is met; a slice's spare places count too). A statement '..UptoSaid' is the law's where the arguments, and the package variables that the reading takes, are together of bulk at most 1048576: NARROWER than '..Said'. Prove '..Said' where nothing that the law and all that it calls make is longer than what came in: it says more and counts as full. Else prove '..UptoSaid'. A law counts once. -/
mutual
def uptoBulk {H : Type} : DataW H → Nat
  | .lit (.string bytes) => bytes.length + 1
  | .lit _ => 1
  | .nil => 1
  | .ptr d => uptoBulk d + 1
  | .slice elems spare => uptoBulkAll elems + uptoBulkAll spare + 1
  | .agg parts => uptoBulkAll parts + 1
  | .iface _ d => uptoBulk d + 1
  | .map entries => uptoBulkEntries entries + 1
  | .held _ => 1
def uptoBulkAll {H : Type} : List (DataW H) → Nat
  | [] => 0
  | d :: r => uptoBulk d + uptoBulkAll r
def uptoBulkEntries {H : Type} : List (Lit × DataW H) → Nat
  | [] => 0
  | x :: r => uptoBulkEntry x + uptoBulkEntries r
def uptoBulkEntry {H : Type} : Lit × DataW H → Nat
  | (.string bytes, d) => bytes.length + uptoBulk d + 1
  | (_, d) => uptoBulk d + 1
 end
def uptoSmall : (H : Type) → List (DataW H) → Bool := fun _ ds => decide (uptoBulkAll ds ≤ 1048576)
def OpenSpec.upto (s : _root_.Go.ChangeSpec) : _root_.Go.OpenSpec := { _root_.Go.OpenSpec.ofChange s with cond := some uptoSmall }

/-- 'laws.FnTopOfAll', WHERE WHAT IT READS IS OF BULK AT MOST 1048576: true; the input reads as it did. -/
def fnTopOfAllUptoRow : OpenClaim := { program := "ytmdnahopljfakaa", sum := "f8622d0e3595408389a177c59a2ea042726df7a9f233cfecd5844d5b959aadcd", func := "loop.example/g01340/laws.FnTopOfAll", spec := "fnTopOfAll", unfollowed := true, recurses := true, apart := false, narrowed := true }
def FnTopOfAllUptoSaid : Prop := fnTopOfAllUptoRow.holds Try.pinned (OpenSpec.upto fnTopOfAllSpec)

/-- 'laws.FnBlobs', WHERE WHAT IT READS IS OF BULK AT MOST 1048576: true; the input reads as it did. -/
def fnBlobsUptoRow : OpenClaim := { program := "ytmdnahopljfakaa", sum := "f8622d0e3595408389a177c59a2ea042726df7a9f233cfecd5844d5b959aadcd", func := "loop.example/g01340/laws.FnBlobs", spec := "fnBlobs", unfollowed := true, recurses := true, apart := false, narrowed := true }
def FnBlobsUptoSaid : Prop := fnBlobsUptoRow.holds Try.pinned (OpenSpec.upto fnBlobsSpec)

/-- 'laws.FnEncoded', WHERE WHAT IT READS IS OF BULK AT MOST 1048576: true; the input reads as it did. -/
def fnEncodedUptoRow : OpenClaim := { program := "ytmdnahopljfakaa", sum := "f8622d0e3595408389a177c59a2ea042726df7a9f233cfecd5844d5b959aadcd", func := "loop.example/g01340/laws.FnEncoded", spec := "fnEncoded", unfollowed := true, recurses := true, apart := false, narrowed := true }
def FnEncodedUptoSaid : Prop := fnEncodedUptoRow.holds Try.pinned (OpenSpec.upto fnEncodedSpec)

end Rows
end Go.Proofs.Ytmdnahopljfakaa
