/- The laws of layer 9 in the form of the rows. -/
import Derived.Test.YtbolaohekbmndaaGreatDoorRow
import Derived.Test.YtbolaohekbmndaaGreatDoorL09d
set_option linter.unusedVariables false
namespace Go.Proofs.YtbolaohekbmndaaGreatDoor
theorem TreeDeep_row (n : Int) {A : Prop} (_ : A) : law09_TreeDeep n = some true := TreeDeep_law n
end Go.Proofs.YtbolaohekbmndaaGreatDoor
