/- Layer 34, the page's example: the compiler's run. -/
import Derived.Test.YtecakklofhfphaaGreatDoorKHa
set_option linter.unusedVariables false
namespace Go.Proofs.YtecakklofhfphaaGreatDoor
open AMX
set_option maxRecDepth 1000000 in
theorem run1:subR ((callT Tryz.prog (maskL awL) awPm [Ct.te0] 200).run Ct.te1.f Ct.te1.args Ct.te1.h) Ct.te1.v Ct.te1.h' = true:=by kernel_rfl
theorem te1_ok:TbOk (Pow10 Tryz.prog) Tryz.prog [Ct.te1]:=Y0p (Z2x (stOk_of awS) mixP Z6y te0_ok run1) Z9c
end Go.Proofs.YtecakklofhfphaaGreatDoor
