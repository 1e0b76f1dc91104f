/- The law of reading in the form of the row. -/
import Derived.Test.YtcmncppbonaaeaaDoorRow
import Derived.Test.YtcmncppbonaaeaaDoorL06c
set_option linter.unusedVariables false
namespace Go.Proofs.YtcmncppbonaaeaaDoor
theorem ListingReads_row (s : List UInt8) {A : Prop} (_ : A) : law06_ListingReads s = some true := Reads_law s
end Go.Proofs.YtcmncppbonaaeaaDoor
