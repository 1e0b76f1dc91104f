/- A package variable that holds a whole number, at the start of a call. It holds for every program. -/
import Derived.Test.YtgacfocekkckfaaGreatDoorArr
import Derived.Test.YtgacfocekkckfaaGreatDoorRow
import Derived.HandedShaped
set_option linter.unusedVariables false
namespace Go.Proofs.YtgacfocekkckfaaGreatDoor
end Go.Proofs.YtgacfocekkckfaaGreatDoor
