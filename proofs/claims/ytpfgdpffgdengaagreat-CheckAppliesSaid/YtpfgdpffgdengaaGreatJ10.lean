import Derived.Test.YtpfgdpffgdengaaGreatRow
import Derived.Test.YtpfgdpffgdengaaGreatL10
set_option linter.unusedVariables false
namespace Go.Proofs.YtpfgdpffgdengaaGreat
theorem CheckApplies_row (fn a b : Int) (_ : wfI .i64 fn) (ha : wfI .u32 a) (hb : wfI .u32 b) : law10_CheckApplies fn a b = some true := CheckApplies_law (wf_u32 ha) (wf_u32 hb)
end Go.Proofs.YtpfgdpffgdengaaGreat
