/- Layer 30, the page's example: its run, and what a call of it does. -/
import Derived.Test.YtlnamhpmhcgcpaaGreatDoorKHb
set_option linter.unusedVariables false
namespace Go.Proofs.YtlnamhpmhcgcpaaGreatDoor
set_option maxRecDepth 1000000 in
theorem awRun : AMX.isTrue ((AMX.callT Tryz.prog (AMX.maskL awL) awPm [Ct.te1] 200).run 4 [] ⟨0, .nil⟩) = true := by kernel_rfl
theorem law30_awake_sim {g : World} {T0 : Nat → Prop} {w0 : World} {R : Assn} {r : Bool} (hS : Sep g T0 w0 [R]) (hG : Gc T0 w0 1 (Lib.pow10Tab.map fun z => Value.int .u64 z)) (hm : law30_awake = some r) :
    Calls Tryz.prog 4 #[] w0 (RetS T0 w0 fun T w v => v = .bool r ∧ Sep g T w [R] ∧ True) := by
  cases hm
  obtain ⟨h', hc⟩ := awake_true awS mixP awPm_ok te1_ok awRun
  exact awake_tab (by kernel_rfl) hc hS hG
end Go.Proofs.YtlnamhpmhcgcpaaGreatDoor
