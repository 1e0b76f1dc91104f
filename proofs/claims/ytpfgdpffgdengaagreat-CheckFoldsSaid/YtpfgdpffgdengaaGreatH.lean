/- The page's example of layer 10, run by the evaluator. -/
import Derived.Test.YtpfgdpffgdengaaGreatRows
import Derived.Test.YtpfgdpffgdengaaGreatAwk
import Derived.Test.YtpfgdpffgdengaaGreatM
set_option linter.unusedVariables false
set_option maxRecDepth 100000
namespace Go.Proofs.YtpfgdpffgdengaaGreat
theorem awake10 : AMX.isTrue ((AMX.callA Tryz.prog 60).run 9 [] ⟨0, .nil⟩) = true := by kernel_rfl
theorem law10_awake_sim {g : World} {T0 : Nat → Prop} {w0 : World} {R : Assn} {r : Bool} (hS : Sep g T0 w0 [R]) (hm : law10_awake = some r) :
    Calls Tryz.prog 9 #[] w0 (RetS T0 w0 fun T w v => v = .bool r ∧ Sep g T w [R] ∧ True) := by
  cases hm
  exact awake_run (by kernel_rfl) awake10 hS
end Go.Proofs.YtpfgdpffgdengaaGreat
