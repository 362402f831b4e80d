/-
  DERIVED. GIVEN WITH THE SEED: THE CARDS: each row of YtgdnkjgipinkhaaGreatDoorRows.lean that lists a variable, with what it lists TIED to the program's text (the seventh form; the later family's looks); each row that meets fmt, with fmt's text TOLD by the authors' own Lean function (tested against real Go, not proved from fmt's source: count such statements apart). THE CARD IS WHAT COUNTS. Prove the row's statement (the work); the ties are given (YtgdnkjgipinkhaaGreatDoorTie.lean); close each card by the builder's one call (the guide's Derived/Test/ToyasCard.lean, 'card_holds'). Laid BY PROGRAM, IN A SANDBOX (cutbox-door.mjs). By AI agents, Wed Nov 11 2026. No macro, syntax, notation, axiom, sorry.
-/
import Derived.Test.YtgdnkjgipinkhaaGreatDoorRows
import GoSem.ClaimSeven
namespace Go.Proofs.YtgdnkjgipinkhaaGreatDoor
namespace Rows

/-- THE TIED CARD OF 'laws.FnTracks'. -/
def fnTracksCard : Claim7 := { stood := { row := fnTracksRow, standIns := [], harness := (true, "fd3c1f8334e5ebc4a0f48362d1debd4d167002a7e9e4a04fef014513cdfea0f3"), looks := true }, kinds := [], alts := [], laidByText := true, laidKinds := [.data, .data, .data, .data, .sentinel, .sentinel, .pinned], laidTests := true, laidLooks := .later }
def FnTracksCardSaid : Prop := Claim7.holds Tryz.pinned (.plain (OpenSpec.ofChange fnTracksSpec)) fnTracksCard

/-- THE TIED CARD OF 'laws.FnSteps'. -/
def fnStepsCard : Claim7 := { stood := { row := fnStepsRow, standIns := [], harness := (true, "fd3c1f8334e5ebc4a0f48362d1debd4d167002a7e9e4a04fef014513cdfea0f3"), looks := true }, kinds := [], alts := [], laidByText := true, laidKinds := [.data, .data, .data, .data, .sentinel, .sentinel, .widerDeep, .pinned], laidTests := true, laidLooks := .later }
def FnStepsCardSaid : Prop := Claim7.holds Tryz.pinned (.plain (OpenSpec.ofChange fnStepsSpec)) fnStepsCard

/-- THE SECOND FORM's CARD OF 'laws.FnTracks'. -/
def fnTracksUptoCard : Claim7 := { stood := { row := fnTracksUptoRow, standIns := [], harness := (true, "fd3c1f8334e5ebc4a0f48362d1debd4d167002a7e9e4a04fef014513cdfea0f3"), looks := true }, kinds := [], alts := [], laidByText := true, laidKinds := [.data, .data, .data, .data, .sentinel, .sentinel, .pinned], laidTests := true, laidLooks := .later }
def FnTracksUptoCardSaid : Prop := Claim7.holds Tryz.pinned (.plain (OpenSpec.upto fnTracksSpec)) fnTracksUptoCard

/-- THE SECOND FORM's CARD OF 'laws.FnSteps'. -/
def fnStepsUptoCard : Claim7 := { stood := { row := fnStepsUptoRow, standIns := [], harness := (true, "fd3c1f8334e5ebc4a0f48362d1debd4d167002a7e9e4a04fef014513cdfea0f3"), looks := true }, kinds := [], alts := [], laidByText := true, laidKinds := [.data, .data, .data, .data, .sentinel, .sentinel, .widerDeep, .pinned], laidTests := true, laidLooks := .later }
def FnStepsUptoCardSaid : Prop := Claim7.holds Tryz.pinned (.plain (OpenSpec.upto fnStepsSpec)) fnStepsUptoCard
end Rows
end Go.Proofs.YtgdnkjgipinkhaaGreatDoor
