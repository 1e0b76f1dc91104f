/- A range over a function, told of what functions own. It holds for every program. -/
import Derived.Test.YteoihjfnojgnnaaGreatAct
import Derived.RangeFuncRecord
import Derived.RangeFuncCalls
import Derived.RangeFuncBound
import Derived.OrdersIn
import Derived.Test.YteoihjfnojgnnaaGreatRet
set_option linter.unusedVariables false
namespace Go.Proofs.YteoihjfnojgnnaaGreat

/-! ## Operations in a round -/
/-! ## The statement -/
/-! ## Calls of yield -/
/-! ## Assertions with names and with frozen slices in them -/
def exA {ι : Type} (A : ι → Assn) : Assn where
  P := fun T w F => ∃ i, (A i).P T w F
  loc := fun ⟨i, h⟩ hT hs => ⟨i, (A i).loc h hT hs⟩
  bnd := fun ⟨i, h⟩ => (A i).bnd h
theorem Sep.exE {g : World} {T : Nat → Prop} {w : World} {L : List Assn} {ι : Type} {A : ι → Assn} (h : Sep g T w (exA A :: L)) : ∃ i, Sep g T w (A i :: L) := by
  obtain ⟨h1, h2, h3, h4, fs, h5, h6⟩ := h
  obtain ⟨i, hi⟩ := h5.1 0 (Nat.succ_pos _)
  exact ⟨i, h1, h2, h3, h4, fs, ⟨fun j hj => match j, hj with | 0, _ => hi | j + 1, hj => h5.1 (j + 1) hj, h5.2⟩, h6⟩
theorem Sep.exI {g : World} {T : Nat → Prop} {w : World} {L : List Assn} {ι : Type} {A : ι → Assn} (i : ι) (h : Sep g T w (A i :: L)) : Sep g T w (exA A :: L) := h.imp 0 rfl fun F hF => ⟨i, hF⟩
/-! ## The control of a round -/
section
variable {P : Program} {Q : Exit → Act → World → Prop} {n : NF} {J : Nat → Value} {L : List (Nat × Value)} {w : World} {a : Act} {x y : Code} {l i : Nat} {g : World} {T : Nat → Prop} {R Y : Assn} {j : Option Code}
end

/-! ## A function that holds such a statement -/
end Go.Proofs.YteoihjfnojgnnaaGreat
