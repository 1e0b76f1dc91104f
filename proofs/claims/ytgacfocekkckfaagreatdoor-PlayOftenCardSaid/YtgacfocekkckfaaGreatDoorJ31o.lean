/- PlayOften in the form of the rows. -/
import Derived.Test.YtgacfocekkckfaaGreatDoorRow
import Derived.Test.YtgacfocekkckfaaGreatDoorL31B
set_option linter.unusedVariables false
namespace Go.Proofs.YtgacfocekkckfaaGreatDoor
theorem PlayOften_row (g : GImage) (i : List Int) (x : law31Fail) (h : ((∀ x ∈ g.Code, wfI .u32 x) ∧ g.Code.length ≤ maxLen) ∧ (((∀ x ∈ g.Data, wfI .u8 x) ∧ g.Data.length ≤ maxLen) ∧ (wfI .i64 g.Limit ∧ wfI .i64 g.Notes))) (h2 : (∀ x ∈ i, wfI .u32 x) ∧ i.length ≤ maxLen) (h3 : ((∀ y ∈ x.L, wfI .i64 y) ∧ x.L.length ≤ maxLen) ∧ (wfI .i64 x.First ∧ (wfI .i64 x.Gap ∧ wfI .i64 x.N))) : law31_PlayOften g i x = some true :=
  PlayOften_law g i x (fun x hx => wf_u32 (h.1.1 x hx)) (fun x hx => wf_u8 (h.2.1.1 x hx)) (fun x hx => wf_u32 (h2.1 x hx)) ⟨by have := wf_i64 h3.2.1; omega, by have := wf_i64 h3.2.2.1; omega⟩ rfl
end Go.Proofs.YtgacfocekkckfaaGreatDoor
