import Derived.Test.YthieojijnjdfgaaRow
import Derived.Test.YthieojijnjdfgaaL33
set_option linter.unusedVariables false
namespace Go.Proofs.Ythieojijnjdfgaa
theorem mxl : maxLen ≤ 9223372036854775807 := by decide
theorem PowerApart_row (s : PowerSupply) (t : Int) (h : ((∀ x ∈ s.Ticks, wfI .i64 x) ∧ s.Ticks.length ≤ maxLen) ∧ (wfI .i64 s.Room ∧ wfI .i64 s.On)) (_ : wfI .i64 t) : law33_PowerApart s t = some true := PowerApart_law s t (Nat.le_trans h.1.2 mxl)
theorem PowerFails_row (s : PowerSupply) (t : Int) (h : ((∀ x ∈ s.Ticks, wfI .i64 x) ∧ s.Ticks.length ≤ maxLen) ∧ (wfI .i64 s.Room ∧ wfI .i64 s.On)) (_ : wfI .i64 t) : law33_PowerFails s t = some true := PowerFails_law s t (Nat.le_trans h.1.2 mxl)
end Go.Proofs.Ythieojijnjdfgaa
