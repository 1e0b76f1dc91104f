/- Layer 34, the page's example: its run, and what a call of it does. -/
import Derived.Test.YtecakklofhfphaaGreatDoorKHb
set_option linter.unusedVariables false
namespace Go.Proofs.YtecakklofhfphaaGreatDoor
set_option maxRecDepth 1000000 in
theorem awRun:AMX.isTrue ((AMX.callT Tryz.prog (AMX.maskL awL) awPm [Ct.te1] 200).run 4 [] ⟨0,.nil⟩)=true:=by kernel_rfl
theorem Q0j {g:World} {T0:Nat→Prop} {w0:World} {R:Z4} {r:Bool} (hS:Sep g T0 w0 [R]) (hG:Gc T0 w0 1 (Lib.pow10Tab.map fun z=>Value.int .u64 z)) (hm:Q0g=some r) :
    Calls Tryz.prog 4 #[] w0 (Y4 T0 w0 fun T w v=>v = .bool r∧Sep g T w [R]∧True):=by
  cases hm
  obtain⟨h',hc⟩:=Y0i awS mixP Z6y te1_ok awRun
  exact Y3d (by kernel_rfl) hc hS hG
end Go.Proofs.YtecakklofhfphaaGreatDoor
