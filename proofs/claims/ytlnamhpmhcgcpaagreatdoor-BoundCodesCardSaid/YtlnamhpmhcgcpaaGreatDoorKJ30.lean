/- BoundCodes in the form of the rows. -/
import Derived.Test.YtlnamhpmhcgcpaaGreatDoorKRow
import Derived.Test.YtlnamhpmhcgcpaaGreatDoorKL30B
set_option linter.unusedVariables false
namespace Go.Proofs.YtlnamhpmhcgcpaaGreatDoor
theorem BoundCodes_row (l : List Int) (n : Int) (h : (∀ x ∈ l, wfI .u32 x) ∧ l.length ≤ maxLen) (_ : wfI .i64 n) : law30_BoundCodes l n = some true :=
  BoundCodes_law l n (fun x hx => wf_u32 (h.1 x hx)) rfl
end Go.Proofs.YtlnamhpmhcgcpaaGreatDoor
