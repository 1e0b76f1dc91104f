/- Appending to a slice that the function owns. It holds for every program. -/
import Derived.Test.YtcmncppbonaaeaaDoorOwn
set_option linter.unusedVariables false
namespace Go.Proofs.YtcmncppbonaaeaaDoor

structure ElemOk (P : Program) (e : TypeId) (sz : Nat) : Prop where
  inf : (P.info? e).map (fun i => (i.zero.map (fun z => z.cells.size), i.size, Nat.ble i.bytes 16384)) = some (some sz, sz, true)
  pos : 0 < sz
theorem ElemOk.ex {P : Program} {e : TypeId} {sz : Nat} (h : ElemOk P e sz) : ∃ i z, P.info? e = some i ∧ i.zero = some z ∧ i.size = sz ∧ z.cells.size = sz ∧ 0 < sz ∧ i.bytes ≤ 16384 := by
  obtain ⟨h1, h2⟩ := h
  cases hi : P.info? e with
  | none => rw [hi] at h1; cases h1
  | some i =>
    rw [hi] at h1
    simp only [Option.map_some, Option.some.injEq, Prod.mk.injEq] at h1
    obtain ⟨a, b, c⟩ := h1
    cases hz : i.zero with
    | none => rw [hz] at a; cases a
    | some z =>
      rw [hz] at a
      simp only [Option.map_some, Option.some.injEq] at a
      exact ⟨i, z, rfl, hz, b, a, h2, Nat.le_of_ble_eq_true c⟩

section
variable {P : Program} {ops : Array Oper} {Q : Exit → Act → World → Prop} {rest : List Oper} {n : NF} {J : Nat → Value} {L : List (Nat × Value)} {w w' w0 : World}
  {d : Nat} {ty : TypeId} {pos : String} {aft : Array Edge} {op : Op} {v : Value} {x y c : Operand} {t t2 : TypeId} {T : Nat → Prop} {KK : Act → World → Prop}

end
end Go.Proofs.YtcmncppbonaaeaaDoor
