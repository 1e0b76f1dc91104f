/-
  DERIVED. GIVEN WITH THE SEED: THE CARDS: each row of YtbolaohekbmndaaGreatDoorRows.lean that lists a variable, with what it lists TIED to the program's text (the seventh form; the later family's looks); each row that meets fmt, with fmt's text TOLD by the authors' own Lean function (tested against real Go, not proved from fmt's source: count such statements apart). THE CARD IS WHAT COUNTS. Prove the row's statement (the work); the ties are given (YtbolaohekbmndaaGreatDoorTie.lean); close each card by the builder's one call (the guide's Derived/Test/ToyasCard.lean, 'card_holds'). Laid BY PROGRAM, IN A SANDBOX (cutbox-door.mjs). By AI agents, Wed Nov 11 2026. No macro, syntax, notation, axiom, sorry.
-/
import Derived.Test.YtbolaohekbmndaaGreatDoorRows
import GoSem.ClaimSeven
namespace Go.Proofs.YtbolaohekbmndaaGreatDoor
namespace Rows

/-- THE TIED CARD OF 'rushlightlaw09.TreeDeep'. -/
def treeDeepCard : Claim7 := { stood := { row := treeDeepRow, standIns := [], harness := (true, "bf9c68684ae8ae136c3754b96b2a92e3b51d822523727f814cfabbbf471a4da9"), looks := true }, kinds := [], alts := [], laidByText := true, laidKinds := [.data, .data, .data], laidTests := true, laidLooks := .later }
def TreeDeepCardSaid : Prop := Claim7.holds Tryz.pinned (.plain (OpenSpec.ofChange treeDeepSpec)) treeDeepCard

/-- THE TIED CARD OF 'rushlightlaw09.TreePlain'. -/
def treePlainCard : Claim7 := { stood := { row := treePlainRow, standIns := [], harness := (true, "bf9c68684ae8ae136c3754b96b2a92e3b51d822523727f814cfabbbf471a4da9"), looks := true }, kinds := [], alts := [], laidByText := true, laidKinds := [.data, .data, .data], laidTests := true, laidLooks := .later }
def TreePlainCardSaid : Prop := Claim7.holds Tryz.pinned (.plain (OpenSpec.ofChange treePlainSpec)) treePlainCard

/-- THE SECOND FORM's CARD OF 'rushlightlaw09.TreeDeep'. -/
def treeDeepUptoCard : Claim7 := { stood := { row := treeDeepUptoRow, standIns := [], harness := (true, "bf9c68684ae8ae136c3754b96b2a92e3b51d822523727f814cfabbbf471a4da9"), looks := true }, kinds := [], alts := [], laidByText := true, laidKinds := [.data, .data, .data], laidTests := true, laidLooks := .later }
def TreeDeepUptoCardSaid : Prop := Claim7.holds Tryz.pinned (.plain (OpenSpec.upto treeDeepSpec)) treeDeepUptoCard

/-- THE SECOND FORM's CARD OF 'rushlightlaw09.TreePlain'. -/
def treePlainUptoCard : Claim7 := { stood := { row := treePlainUptoRow, standIns := [], harness := (true, "bf9c68684ae8ae136c3754b96b2a92e3b51d822523727f814cfabbbf471a4da9"), looks := true }, kinds := [], alts := [], laidByText := true, laidKinds := [.data, .data, .data], laidTests := true, laidLooks := .later }
def TreePlainUptoCardSaid : Prop := Claim7.holds Tryz.pinned (.plain (OpenSpec.upto treePlainSpec)) treePlainUptoCard
end Rows
end Go.Proofs.YtbolaohekbmndaaGreatDoor
