/-
  DERIVED. GIVEN WITH THE SEED: THE CARDS: each row of YtgacfocekkckfaaGreatDoorRows.lean that lists a variable, with what it lists TIED to the program's text (the seventh form; the later family's looks); each row that meets fmt, with fmt's text TOLD by the authors' own Lean function (tested against real Go, not proved from fmt's source: count such statements apart). THE CARD IS WHAT COUNTS. Prove the row's statement (the work); the ties are given (YtgacfocekkckfaaGreatDoorTie.lean); close each card by the builder's one call (the guide's Derived/Test/ToyasCard.lean, 'card_holds'). Laid BY PROGRAM, IN A SANDBOX (cutbox-door.mjs). By AI agents, Wed Nov 11 2026. No macro, syntax, notation, axiom, sorry.
-/
import Derived.Test.YtgacfocekkckfaaGreatDoorRows
import GoSem.ClaimSeven
namespace Go.Proofs.YtgacfocekkckfaaGreatDoor
namespace Rows

/-- THE TIED CARD OF 'rushlightlaw31.PlayOften'. -/
def playOftenCard : Claim7 := { stood := { row := playOftenRow, standIns := [], harness := (true, "7c2378f4a3bdba04666431d152f6dba8dac6ca912ac397d989092d0b51f19dad"), looks := true }, kinds := [], alts := [], laidByText := true, laidKinds := [.data, .data, .data], laidTests := true, laidLooks := .later }
def PlayOftenCardSaid : Prop := Claim7.holds Tryz.pinned (.plain (OpenSpec.ofChange playOftenSpec)) playOftenCard

/-- THE SECOND FORM's CARD OF 'rushlightlaw31.PlayOften'. -/
def playOftenUptoCard : Claim7 := { stood := { row := playOftenUptoRow, standIns := [], harness := (true, "7c2378f4a3bdba04666431d152f6dba8dac6ca912ac397d989092d0b51f19dad"), looks := true }, kinds := [], alts := [], laidByText := true, laidKinds := [.data, .data, .data], laidTests := true, laidLooks := .later }
def PlayOftenUptoCardSaid : Prop := Claim7.holds Tryz.pinned (.plain (OpenSpec.upto playOftenSpec)) playOftenUptoCard
end Rows
end Go.Proofs.YtgacfocekkckfaaGreatDoor
