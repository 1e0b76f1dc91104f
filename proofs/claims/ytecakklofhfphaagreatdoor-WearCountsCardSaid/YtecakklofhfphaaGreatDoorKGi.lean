/- A package variable that holds a whole number, at the start of a call. It holds for every program. -/
import Derived.Test.YtecakklofhfphaaGreatDoorKArr
import Derived.Test.YtecakklofhfphaaGreatDoorKRow
import Derived.HandedShaped
set_option linter.unusedVariables false
namespace Go.Proofs.YtecakklofhfphaaGreatDoor
end Go.Proofs.YtecakklofhfphaaGreatDoor
