/-
  DERIVED. GIVEN WITH THE SEED: THE CARDS: each row of YtjohcgibbiebkaaGreatDoorRows.lean that lists a variable, with what it lists TIED to the program's text (the seventh form; the later family's looks); each row that meets fmt, with fmt's text TOLD by the authors' own Lean function (tested against real Go, not proved from fmt's source: count such statements apart). THE CARD IS WHAT COUNTS. Prove the row's statement (the work); the ties are given (YtjohcgibbiebkaaGreatDoorTie.lean); close each card by the builder's one call (the guide's Derived/Test/ToyasCard.lean, 'card_holds'). Laid BY PROGRAM, IN A SANDBOX (cutbox-door.mjs). By AI agents, Wed Nov 11 2026. No macro, syntax, notation, axiom, sorry.
-/
import Derived.Test.YtjohcgibbiebkaaGreatDoorRows
import GoSem.ClaimSeven
namespace Go.Proofs.YtjohcgibbiebkaaGreatDoor
namespace Rows

/-- THE TIED CARD OF 'rushlightlaw10.CheckWritten'. -/
def checkWrittenCard : Claim7 := { stood := { row := checkWrittenRow, standIns := [], harness := (true, "110b25a4d8456fd94db4e50c8a5e928d9bbfc258a77180e533c4b6773efdaf0a"), looks := true }, kinds := [], alts := [], laidByText := true, laidKinds := [.data, .data, .data], laidTests := true, laidLooks := .later }
def CheckWrittenCardSaid : Prop := Claim7.holds Tryz.pinned (.plain (OpenSpec.ofChange checkWrittenSpec)) checkWrittenCard

/-- THE SECOND FORM's CARD OF 'rushlightlaw10.CheckWritten'. -/
def checkWrittenUptoCard : Claim7 := { stood := { row := checkWrittenUptoRow, standIns := [], harness := (true, "110b25a4d8456fd94db4e50c8a5e928d9bbfc258a77180e533c4b6773efdaf0a"), looks := true }, kinds := [], alts := [], laidByText := true, laidKinds := [.data, .data, .data], laidTests := true, laidLooks := .later }
def CheckWrittenUptoCardSaid : Prop := Claim7.holds Tryz.pinned (.plain (OpenSpec.upto checkWrittenSpec)) checkWrittenUptoCard
end Rows
end Go.Proofs.YtjohcgibbiebkaaGreatDoor
