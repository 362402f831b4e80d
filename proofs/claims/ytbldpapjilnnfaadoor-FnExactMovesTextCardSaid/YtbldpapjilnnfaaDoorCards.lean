/-
  DERIVED. GIVEN WITH THE SEED: THE CARDS: each row of YtbldpapjilnnfaaDoorRows.lean that lists a variable, with what it lists TIED to the program's text (the seventh form; the later family's looks); each row that meets fmt, with fmt's text TOLD by the authors' own Lean function (tested against real Go, not proved from fmt's source: count such statements apart). THE CARD IS WHAT COUNTS. Prove the row's statement (the work); the ties are given (YtbldpapjilnnfaaDoorTie.lean); close each card by the builder's one call (the guide's Derived/Test/ToyasCard.lean, 'card_holds'). Laid BY PROGRAM, IN A SANDBOX (cutbox-door.mjs). By AI agents, Wed Nov 11 2026. No macro, syntax, notation, axiom, sorry.
-/
import Derived.Test.YtbldpapjilnnfaaDoorRows
import GoSem.ClaimSeven
namespace Go.Proofs.YtbldpapjilnnfaaDoor
namespace Rows

/-- THE TIED CARD OF 'laws.FnExactMovesText'. -/
def fnExactMovesTextCard : Claim7 := { stood := { row := fnExactMovesTextRow, standIns := [], harness := (true, "66ca6d96b6140699db210df9b9cabac1005b6caf61c23e7f6789a1190e21b8ac"), looks := false }, kinds := [], alts := [], laidByText := true, laidKinds := [.data, .data, .data], laidTests := true, laidLooks := .later }
def FnExactMovesTextCardSaid : Prop := Claim7.holds Tryd.pinned (.plain (OpenSpec.ofChange fnExactMovesTextSpec)) fnExactMovesTextCard

/-- THE SECOND FORM's CARD OF 'laws.FnExactMovesText'. -/
def fnExactMovesTextUptoCard : Claim7 := { stood := { row := fnExactMovesTextUptoRow, standIns := [], harness := (true, "66ca6d96b6140699db210df9b9cabac1005b6caf61c23e7f6789a1190e21b8ac"), looks := false }, kinds := [], alts := [], laidByText := true, laidKinds := [.data, .data, .data], laidTests := true, laidLooks := .later }
def FnExactMovesTextUptoCardSaid : Prop := Claim7.holds Tryd.pinned (.plain (OpenSpec.upto fnExactMovesTextSpec)) fnExactMovesTextUptoCard
end Rows
end Go.Proofs.YtbldpapjilnnfaaDoor
