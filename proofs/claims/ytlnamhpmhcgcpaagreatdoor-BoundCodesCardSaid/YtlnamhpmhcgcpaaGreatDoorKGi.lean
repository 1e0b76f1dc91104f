/- A package variable that holds a whole number, at the start of a call. It holds for every program. -/
import Derived.Test.YtlnamhpmhcgcpaaGreatDoorKArr
import Derived.Test.YtlnamhpmhcgcpaaGreatDoorKRow
import Derived.HandedShaped
set_option linter.unusedVariables false
namespace Go.Proofs.YtlnamhpmhcgcpaaGreatDoor
end Go.Proofs.YtlnamhpmhcgcpaaGreatDoor
