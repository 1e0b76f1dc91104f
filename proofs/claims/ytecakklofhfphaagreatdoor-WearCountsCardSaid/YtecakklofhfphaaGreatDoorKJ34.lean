/- WearCounts in the form of the rows. -/
import Derived.Test.YtecakklofhfphaaGreatDoorKRow
import Derived.Test.YtecakklofhfphaaGreatDoorKL34B
set_option linter.unusedVariables false
namespace Go.Proofs.YtecakklofhfphaaGreatDoor
theorem Z3k (g:X8) (i:List Int) (x:I2) (h:((∀ x ∈ g.Code,wfI .u32 x)∧g.Code.length≤maxLen)∧(((∀ x ∈ g.Data,wfI .u8 x)∧g.Data.length≤maxLen)∧(wfI .i64 g.Limit∧wfI .i64 g.Notes))) (h2:(∀ x ∈ i,wfI .u32 x)∧i.length≤maxLen) {B:Prop} (_:B):D9 g i x=some true :=
  Z3l g i x (fun x hx=>wf_u32 (h.1.1 x hx)) (fun x hx=>wf_u8 (h.2.1.1 x hx)) (fun x hx=>wf_u32 (h2.1 x hx)) rfl
end Go.Proofs.YtecakklofhfphaaGreatDoor
