import Derived.Test.YtpfgdpffgdengaaGreatRow
import Derived.Test.YtpfgdpffgdengaaGreatL10b
set_option linter.unusedVariables false
namespace Go.Proofs.YtpfgdpffgdengaaGreat
theorem CheckApplies_row (fn a b : Int) (_ : wfI .i64 fn) (ha : wfI .u32 a) (hb : wfI .u32 b) : law10_CheckApplies fn a b = some true := CheckApplies_law (wf_u32 ha) (wf_u32 hb)
theorem WfT_row {y : GTerm} (h : wfI .i64 y.Kind ∧ wfI .i64 y.Fn ∧ wfI .u32 y.Num ∧ wfI .i64 y.Var ∧ True ∧ wfI .i64 y.Size ∧ True ∧ True ∧ ((∀ x ∈ y.Kids, WfT x) ∧ y.Kids.length ≤ maxLen)) : WfT y :=
  .mk (wf_u32 h.2.2.1) (Nat.le_trans h.2.2.2.2.2.2.2.2.2 (by decide)) h.2.2.2.2.2.2.2.2.1
theorem CheckFolds_row (t : GTerm) (h : WfT t) : law10_CheckFolds t = some true := CheckFolds_law h
end Go.Proofs.YtpfgdpffgdengaaGreat
