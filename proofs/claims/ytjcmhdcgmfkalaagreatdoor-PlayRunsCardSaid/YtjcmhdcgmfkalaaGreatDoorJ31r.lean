/- PlayRuns in the form of the rows. -/
import Derived.Test.YtjcmhdcgmfkalaaGreatDoorRow
import Derived.Test.YtjcmhdcgmfkalaaGreatDoorL31B
set_option linter.unusedVariables false
namespace Go.Proofs.YtjcmhdcgmfkalaaGreatDoor
theorem PlayRuns_row (g : GImage) (i : List Int) (x : law31Fail) (h : ((∀ x ∈ g.Code, wfI .u32 x) ∧ g.Code.length ≤ maxLen) ∧ (((∀ x ∈ g.Data, wfI .u8 x) ∧ g.Data.length ≤ maxLen) ∧ (wfI .i64 g.Limit ∧ wfI .i64 g.Notes))) (h2 : (∀ x ∈ i, wfI .u32 x) ∧ i.length ≤ maxLen) {B : Prop} (_ : B) : law31_PlayRuns g i x = some true :=
  PlayRuns_law g i x (fun x hx => wf_u32 (h.1.1 x hx)) (fun x hx => wf_u8 (h.2.1.1 x hx)) (fun x hx => wf_u32 (h2.1 x hx)) rfl
end Go.Proofs.YtjcmhdcgmfkalaaGreatDoor
