/- A package variable that holds a whole number, at the start of a call. It holds for every program. -/
import Derived.Test.YtjcmhdcgmfkalaaGreatDoorArr
import Derived.Test.YtjcmhdcgmfkalaaGreatDoorRow
import Derived.HandedShaped
set_option linter.unusedVariables false
namespace Go.Proofs.YtjcmhdcgmfkalaaGreatDoor
end Go.Proofs.YtjcmhdcgmfkalaaGreatDoor
