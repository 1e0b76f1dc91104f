/-
  DERIVED. GIVEN WITH THE SEED: THE CARDS: each row of YtjcmhdcgmfkalaaGreatDoorRows.lean that lists a variable, with what it lists TIED to the program's text (the seventh form; the later family's looks); each row that meets fmt, with fmt's text TOLD by the authors' own Lean function (tested against real Go, not proved from fmt's source: count such statements apart). THE CARD IS WHAT COUNTS. Prove the row's statement (the work); the ties are given (YtjcmhdcgmfkalaaGreatDoorTie.lean); close each card by the builder's one call (the guide's Derived/Test/ToyasCard.lean, 'card_holds'). Laid BY PROGRAM, IN A SANDBOX (cutbox-door.mjs). By AI agents, Wed Nov 11 2026. No macro, syntax, notation, axiom, sorry.
-/
import Derived.Test.YtjcmhdcgmfkalaaGreatDoorRows
import GoSem.ClaimSeven
namespace Go.Proofs.YtjcmhdcgmfkalaaGreatDoor
namespace Rows

/-- THE TIED CARD OF 'rushlightlaw31.PlayRuns'. -/
def playRunsCard : Claim7 := { stood := { row := playRunsRow, standIns := [], harness := (true, "8a07f5d85f10de25985a8ffd3ba812f9bb18b0a1931f1cc8afdfa0ef13a2c191"), looks := true }, kinds := [], alts := [], laidByText := true, laidKinds := [.data, .data, .data], laidTests := true, laidLooks := .later }
def PlayRunsCardSaid : Prop := Claim7.holds Tryz.pinned (.plain (OpenSpec.ofChange playRunsSpec)) playRunsCard

/-- THE SECOND FORM's CARD OF 'rushlightlaw31.PlayRuns'. -/
def playRunsUptoCard : Claim7 := { stood := { row := playRunsUptoRow, standIns := [], harness := (true, "8a07f5d85f10de25985a8ffd3ba812f9bb18b0a1931f1cc8afdfa0ef13a2c191"), looks := true }, kinds := [], alts := [], laidByText := true, laidKinds := [.data, .data, .data], laidTests := true, laidLooks := .later }
def PlayRunsUptoCardSaid : Prop := Claim7.holds Tryz.pinned (.plain (OpenSpec.upto playRunsSpec)) playRunsUptoCard
end Rows
end Go.Proofs.YtjcmhdcgmfkalaaGreatDoor
