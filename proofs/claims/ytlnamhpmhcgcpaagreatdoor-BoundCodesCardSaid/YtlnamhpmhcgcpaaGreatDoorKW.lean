/- That Go functions compute their models. Printed by gen2.py. -/
import Derived.Test.YtlnamhpmhcgcpaaGreatDoorKWa
import Derived.Test.YtlnamhpmhcgcpaaGreatDoorKH
set_option linter.unusedVariables false
namespace Go.Proofs.YtlnamhpmhcgcpaaGreatDoor
open _root_.Go.Proofs.Tryz
set_option maxRecDepth 100000
set_option maxHeartbeats 8000000
attribute [local irreducible] wpList wpQuiet Code.wp
variable {g : World} {T0 : Nat → Prop} {w0 : World} {R : List Assn}
attribute [local irreducible] wpSer wpTr execOp Program.underlying sizeOf isAgg zeroValue

theorem law30_BoundCodes_sim {p0 : List Int} {a1 c1 p1} (hS : Sep g T0 w0 [starL R]) (h1 : SlR (rInt .u32) T0 w0 (sv a1 p0 c1) p0) (hG1 : Gc T0 w0 1 (Lib.pow10Tab.map fun z => Value.int .u64 z)) : ∀ r, law30_BoundCodes p0 p1 = some r →
    Calls Tryz.prog 3 #[sv a1 p0 c1, iv p1] w0 (RetS T0 w0 fun T w v => v = .bool r ∧ Sep g T w (R ++ []) ∧ True) := by
  intro r hm
  refine enter Tryz.func3 rfl Tryz.ntmps3 rfl fun J => ?_
  unfold law30_BoundCodes at hm
  refine sq2 (pn ?_)
  refine sq2 (sq2 (cd hm ?_ ?_)) <;> intro hb1 hm
  · refine sq2 ?_
    obtain ⟨y1, hx1, hm⟩ := bindS hm
    refine cS cf4 (law30_awake_sim (hS.bun [0] [] rfl) hG1 hx1) ?_
    rintro _ T1 w1 im1 ⟨rfl, hS1, _⟩
    have hS1 := hS1.unb
    exact re hm (hS1.sel [0] rfl)
  refine pn ?_
  refine sq2 ?_
  obtain ⟨y2, hx2, hm⟩ := bindS hm
  refine cS cf4 (law30_awake_sim (hS.bun [0] [] rfl) hG1 hx2) ?_
  rintro _ T2 w2 im2 ⟨rfl, hS2, _⟩
  have hS2 := hS2.unb
  refine pu ?_
  rcases bc hm with ⟨hb2, hm⟩ | ⟨hb2, hm⟩
  · refine pu ?_
    refine pv (r_bd (by kernel_rfl) rfl (u := .agg #[sv a1 p0 c1, .slice none 0 0, iv 0, iv p1])) (pu ?_)
    refine cB cf5 hm (law30_same_sim (hS2.bun [0] [] rfl) (h1.mono im2) SlR_nil) ?_
    rintro y3 _ T3 w3 im3 ⟨rfl, hS3, _⟩ hm
    exact re hm (hS3.sel [0] rfl)
  exact re hm (hS2.sel [0] rfl)
end Go.Proofs.YtlnamhpmhcgcpaaGreatDoor
