/-
  DERIVED. GIVEN WITH THE SEED: THE CARDS: each row of YtokpeeflnijogaaGreatDoorRows.lean that lists a variable, with what it lists TIED to the program's text (the seventh form; the later family's looks); each row that meets fmt, with fmt's text TOLD by the authors' own Lean function (tested against real Go, not proved from fmt's source: count such statements apart). THE CARD IS WHAT COUNTS. Prove the row's statement (the work); the ties are given (YtokpeeflnijogaaGreatDoorTie.lean); close each card by the builder's one call (the guide's Derived/Test/ToyasCard.lean, 'card_holds'). Laid BY PROGRAM, IN A SANDBOX (cutbox-door.mjs). By AI agents, Wed Nov 11 2026. No macro, syntax, notation, axiom, sorry.
-/
import Derived.Test.YtokpeeflnijogaaGreatDoorRows
import GoSem.ClaimSeven
namespace Go.Proofs.YtokpeeflnijogaaGreatDoor
namespace Rows

/-- THE TIED CARD OF 'rushlightlaw29.CompileNone'. -/
def compileNoneCard : Claim7 := { stood := { row := compileNoneRow, standIns := [], harness := (true, "8217d2a7ab547841774cd6d154c088dfda18adf96ee9cf05a644619e3b25e9d7"), looks := true }, kinds := [], alts := [], laidByText := true, laidKinds := [.data, .data, .data], laidTests := true, laidLooks := .later }
def CompileNoneCardSaid : Prop := Claim7.holds Tryz.pinned (.plain (OpenSpec.ofChange compileNoneSpec)) compileNoneCard

/-- THE SECOND FORM's CARD OF 'rushlightlaw29.CompileNone'. -/
def compileNoneUptoCard : Claim7 := { stood := { row := compileNoneUptoRow, standIns := [], harness := (true, "8217d2a7ab547841774cd6d154c088dfda18adf96ee9cf05a644619e3b25e9d7"), looks := true }, kinds := [], alts := [], laidByText := true, laidKinds := [.data, .data, .data], laidTests := true, laidLooks := .later }
def CompileNoneUptoCardSaid : Prop := Claim7.holds Tryz.pinned (.plain (OpenSpec.upto compileNoneSpec)) compileNoneUptoCard
end Rows
end Go.Proofs.YtokpeeflnijogaaGreatDoor
