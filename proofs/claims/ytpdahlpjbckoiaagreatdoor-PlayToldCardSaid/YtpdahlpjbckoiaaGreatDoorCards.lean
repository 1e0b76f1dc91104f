/-
  DERIVED. GIVEN WITH THE SEED: THE CARDS: each row of YtpdahlpjbckoiaaGreatDoorRows.lean that lists a variable, with what it lists TIED to the program's text (the seventh form; the later family's looks); each row that meets fmt, with fmt's text TOLD by the authors' own Lean function (tested against real Go, not proved from fmt's source: count such statements apart). THE CARD IS WHAT COUNTS. Prove the row's statement (the work); the ties are given (YtpdahlpjbckoiaaGreatDoorTie.lean); close each card by the builder's one call (the guide's Derived/Test/ToyasCard.lean, 'card_holds'). Laid BY PROGRAM, IN A SANDBOX (cutbox-door.mjs). By AI agents, Wed Nov 11 2026. No macro, syntax, notation, axiom, sorry.
-/
import Derived.Test.YtpdahlpjbckoiaaGreatDoorRows
import GoSem.ClaimSeven
namespace Go.Proofs.YtpdahlpjbckoiaaGreatDoor
namespace Rows

/-- THE TIED CARD OF 'rushlightlaw31.PlayTold'. -/
def playToldCard : Claim7 := { stood := { row := playToldRow, standIns := [], harness := (true, "8b7a13ef6e0b5418f9b855ede1b9f86172897aaf0a270d66b4fb6c9658f4605b"), looks := true }, kinds := [], alts := [], laidByText := true, laidKinds := [.data, .data, .data], laidTests := true, laidLooks := .later }
def PlayToldCardSaid : Prop := Claim7.holds Tryz.pinned (.plain (OpenSpec.ofChange playToldSpec)) playToldCard

/-- THE SECOND FORM's CARD OF 'rushlightlaw31.PlayTold'. -/
def playToldUptoCard : Claim7 := { stood := { row := playToldUptoRow, standIns := [], harness := (true, "8b7a13ef6e0b5418f9b855ede1b9f86172897aaf0a270d66b4fb6c9658f4605b"), looks := true }, kinds := [], alts := [], laidByText := true, laidKinds := [.data, .data, .data], laidTests := true, laidLooks := .later }
def PlayToldUptoCardSaid : Prop := Claim7.holds Tryz.pinned (.plain (OpenSpec.upto playToldSpec)) playToldUptoCard
end Rows
end Go.Proofs.YtpdahlpjbckoiaaGreatDoor
