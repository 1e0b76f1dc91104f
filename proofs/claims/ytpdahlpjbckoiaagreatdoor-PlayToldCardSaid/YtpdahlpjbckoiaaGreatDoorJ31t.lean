/- PlayTold in the form of the rows. -/
import Derived.Test.YtpdahlpjbckoiaaGreatDoorRow
import Derived.Test.YtpdahlpjbckoiaaGreatDoorL31t
set_option linter.unusedVariables false
namespace Go.Proofs.YtpdahlpjbckoiaaGreatDoor
theorem PlayTold_row (p : GPlay) (q : Outcome) (h : wfI .i64 p.State ∧ (wfI .u32 p.Exit ∧ (wfI .i64 p.Steps ∧ (((∀ x ∈ p.Log, wfI .u32 x.Seq ∧ wfI .u32 x.Val) ∧ p.Log.length ≤ maxLen) ∧ wfI .i64 p.Fails)))) {A : Prop} (_ : A) : law31_PlayTold p q = some true :=
  PlayTold_law p q fun r hr => wf_u32 (h.2.2.2.1.1 r hr).1
end Go.Proofs.YtpdahlpjbckoiaaGreatDoor
