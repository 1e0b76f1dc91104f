/- Contracts of the library's functions that package listing calls: numbers to the base 16. -/
import Derived.Test.YtcmncppbonaaeaaDoorH
import Derived.Shelf.Strconv.ParseUint10b32
import Derived.Shelf.Strconv.ToError
import Derived.Shelf.Strconv.ToErrorRange
set_option linter.unusedVariables false
namespace Go.Proofs.YtcmncppbonaaeaaDoor
open Go.Shelf Go.RowKit
section
variable {g : World} {T0 : Nat → Prop} {w0 : World} {R : Assn}
set_option maxHeartbeats 1000000 in
set_option maxRecDepth 100000 in
theorem bits_TrailingZeros_sim {p0 r : Int} (hS : Sep g T0 w0 [R]) (hG : Gc T0 w0 7 (Lib.deBruijn64tab.map fun (z : Nat) => Value.int .u8 (z : Int))) (hm : bits_TrailingZeros p0 = some r) :
    Calls Tryd.prog 90 #[.int .u64 p0] w0 (RetS T0 w0 fun T w v => v = .int .i64 r ∧ Sep g T w [R] ∧ True) := by
  unfold bits_TrailingZeros at hm
  split at hm
  · rename_i hp
    subst hp
    cases hm
    have hc : w0.cell? ⟨7, 15, none⟩ = some (.int .u8 4) := hG.cell rfl
    have hend : Calls Tryd.prog 90 #[.int .u64 16] w0 fun e w' => e = .returned (.int .i64 4) ∧ w' = w0 := by
      clear hG hS
      have key : IntKind.u64.wrap (bits BinOp.and IntKind.u64 16 (IntKind.u64.wrap (-16)) * 285870213051353865) / 288230376151711744 = 15 := by decide
      go_enter Tryd.func90, Tryd.ntmps90
      go_wp2
      go_ret
      exact ⟨rfl, rfl⟩
    refine hend.mono ?_
    rintro e w ⟨rfl, rfl⟩
    exact ⟨_, rfl, _, Im.refl, rfl, hS, trivial⟩
  · cases hm
end
end Go.Proofs.YtcmncppbonaaeaaDoor
