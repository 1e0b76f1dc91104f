/-
  DERIVED. GIVEN WITH THE SEED: THE CARDS: each row of YtecakklofhfphaaGreatDoorRows.lean that lists a variable, with what it lists TIED to the program's text (the seventh form; the later family's looks); each row that meets fmt, with fmt's text TOLD by the authors' own Lean function (tested against real Go, not proved from fmt's source: count such statements apart). THE CARD IS WHAT COUNTS. Prove the row's statement (the work); the ties are given (YtecakklofhfphaaGreatDoorTie.lean); close each card by the builder's one call (the guide's Derived/Test/ToyasCard.lean, 'card_holds'). Laid BY PROGRAM, IN A SANDBOX (cutbox-door.mjs). By AI agents, Wed Nov 11 2026. No macro, syntax, notation, axiom, sorry.
-/
import Derived.Test.YtecakklofhfphaaGreatDoorRows
import GoSem.ClaimSeven
namespace Go.Proofs.YtecakklofhfphaaGreatDoor
namespace Rows

/-- THE TIED CARD OF 'rushlightlaw34.WearCounts'. -/
def wearCountsCard : Claim7 := { stood := { row := wearCountsRow, standIns := [], harness := (true, "1e99efa4dbbfd0f563b816471db3aa5d8e3793159a6f6f3cb327b5b1837aca58"), looks := true }, kinds := [], alts := [], laidByText := true, laidKinds := [.data, .data, .data], laidTests := true, laidLooks := .later }
def WearCountsCardSaid : Prop := Claim7.holds Tryz.pinned (.plain (OpenSpec.ofChange wearCountsSpec)) wearCountsCard

/-- THE SECOND FORM's CARD OF 'rushlightlaw34.WearCounts'. -/
def wearCountsUptoCard : Claim7 := { stood := { row := wearCountsUptoRow, standIns := [], harness := (true, "1e99efa4dbbfd0f563b816471db3aa5d8e3793159a6f6f3cb327b5b1837aca58"), looks := true }, kinds := [], alts := [], laidByText := true, laidKinds := [.data, .data, .data], laidTests := true, laidLooks := .later }
def WearCountsUptoCardSaid : Prop := Claim7.holds Tryz.pinned (.plain (OpenSpec.upto wearCountsSpec)) wearCountsUptoCard
end Rows
end Go.Proofs.YtecakklofhfphaaGreatDoor
