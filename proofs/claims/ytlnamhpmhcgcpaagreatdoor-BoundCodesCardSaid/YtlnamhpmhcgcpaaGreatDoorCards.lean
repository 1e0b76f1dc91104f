/-
  DERIVED. GIVEN WITH THE SEED: THE CARDS: each row of YtlnamhpmhcgcpaaGreatDoorRows.lean that lists a variable, with what it lists TIED to the program's text (the seventh form; the later family's looks); each row that meets fmt, with fmt's text TOLD by the authors' own Lean function (tested against real Go, not proved from fmt's source: count such statements apart). THE CARD IS WHAT COUNTS. Prove the row's statement (the work); the ties are given (YtlnamhpmhcgcpaaGreatDoorTie.lean); close each card by the builder's one call (the guide's Derived/Test/ToyasCard.lean, 'card_holds'). Laid BY PROGRAM, IN A SANDBOX (cutbox-door.mjs). By AI agents, Wed Nov 11 2026. No macro, syntax, notation, axiom, sorry.
-/
import Derived.Test.YtlnamhpmhcgcpaaGreatDoorRows
import GoSem.ClaimSeven
namespace Go.Proofs.YtlnamhpmhcgcpaaGreatDoor
namespace Rows

/-- THE TIED CARD OF 'rushlightlaw30.BoundCodes'. -/
def boundCodesCard : Claim7 := { stood := { row := boundCodesRow, standIns := [], harness := (true, "450f1b65d37ce4aa6b56bf8d7ebabd9982d17eab7d3c822f0afa48e182f4958a"), looks := true }, kinds := [], alts := [], laidByText := true, laidKinds := [.data, .data, .data], laidTests := true, laidLooks := .later }
def BoundCodesCardSaid : Prop := Claim7.holds Tryz.pinned (.plain (OpenSpec.ofChange boundCodesSpec)) boundCodesCard

/-- THE SECOND FORM's CARD OF 'rushlightlaw30.BoundCodes'. -/
def boundCodesUptoCard : Claim7 := { stood := { row := boundCodesUptoRow, standIns := [], harness := (true, "450f1b65d37ce4aa6b56bf8d7ebabd9982d17eab7d3c822f0afa48e182f4958a"), looks := true }, kinds := [], alts := [], laidByText := true, laidKinds := [.data, .data, .data], laidTests := true, laidLooks := .later }
def BoundCodesUptoCardSaid : Prop := Claim7.holds Tryz.pinned (.plain (OpenSpec.upto boundCodesSpec)) boundCodesUptoCard
end Rows
end Go.Proofs.YtlnamhpmhcgcpaaGreatDoor
