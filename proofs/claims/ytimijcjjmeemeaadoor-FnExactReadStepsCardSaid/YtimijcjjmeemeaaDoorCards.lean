/-
  DERIVED. GIVEN WITH THE SEED: THE CARDS: each row of YtimijcjjmeemeaaDoorRows.lean that lists a variable, with what it lists TIED to the program's text (the seventh form; the later family's looks); each row that meets fmt, with fmt's text TOLD by the authors' own Lean function (tested against real Go, not proved from fmt's source: count such statements apart). THE CARD IS WHAT COUNTS. Prove the row's statement (the work); the ties are given (YtimijcjjmeemeaaDoorTie.lean); close each card by the builder's one call (the guide's Derived/Test/ToyasCard.lean, 'card_holds'). Laid BY PROGRAM, IN A SANDBOX (cutbox-door.mjs). By AI agents, Wed Nov 11 2026. No macro, syntax, notation, axiom, sorry.
-/
import Derived.Test.YtimijcjjmeemeaaDoorRows
import GoSem.ClaimSeven
namespace Go.Proofs.YtimijcjjmeemeaaDoor
namespace Rows

/-- THE TIED CARD OF 'laws.FnExactStepsText'. -/
def fnExactStepsTextCard : Claim7 := { stood := { row := fnExactStepsTextRow, standIns := [], harness := (true, "7a1ba154963bbea0a946140fe8752094b077955662147f05bb59b15a0494391c"), looks := true }, kinds := [], alts := [], laidByText := true, laidKinds := [.data, .data, .data, .widerDeep], laidTests := true, laidLooks := .later }
def FnExactStepsTextCardSaid : Prop := Claim7.holds Tryd.pinned (.plain (OpenSpec.ofChange fnExactStepsTextSpec)) fnExactStepsTextCard

/-- THE TIED CARD OF 'laws.FnExactReadSteps'. -/
def fnExactReadStepsCard : Claim7 := { stood := { row := fnExactReadStepsRow, standIns := [], harness := (true, "7a1ba154963bbea0a946140fe8752094b077955662147f05bb59b15a0494391c"), looks := true }, kinds := [], alts := [], laidByText := true, laidKinds := [.data, .data, .data, .data, .sentinel, .sentinel, .widerDeep, .pinned], laidTests := true, laidLooks := .later }
def FnExactReadStepsCardSaid : Prop := Claim7.holds Tryd.pinned (.plain (OpenSpec.ofChange fnExactReadStepsSpec)) fnExactReadStepsCard

/-- THE SECOND FORM's CARD OF 'laws.FnExactStepsText'. -/
def fnExactStepsTextUptoCard : Claim7 := { stood := { row := fnExactStepsTextUptoRow, standIns := [], harness := (true, "7a1ba154963bbea0a946140fe8752094b077955662147f05bb59b15a0494391c"), looks := true }, kinds := [], alts := [], laidByText := true, laidKinds := [.data, .data, .data, .widerDeep], laidTests := true, laidLooks := .later }
def FnExactStepsTextUptoCardSaid : Prop := Claim7.holds Tryd.pinned (.plain (OpenSpec.upto fnExactStepsTextSpec)) fnExactStepsTextUptoCard

/-- THE SECOND FORM's CARD OF 'laws.FnExactReadSteps'. -/
def fnExactReadStepsUptoCard : Claim7 := { stood := { row := fnExactReadStepsUptoRow, standIns := [], harness := (true, "7a1ba154963bbea0a946140fe8752094b077955662147f05bb59b15a0494391c"), looks := true }, kinds := [], alts := [], laidByText := true, laidKinds := [.data, .data, .data, .data, .sentinel, .sentinel, .widerDeep, .pinned], laidTests := true, laidLooks := .later }
def FnExactReadStepsUptoCardSaid : Prop := Claim7.holds Tryd.pinned (.plain (OpenSpec.upto fnExactReadStepsSpec)) fnExactReadStepsUptoCard
end Rows
end Go.Proofs.YtimijcjjmeemeaaDoor
