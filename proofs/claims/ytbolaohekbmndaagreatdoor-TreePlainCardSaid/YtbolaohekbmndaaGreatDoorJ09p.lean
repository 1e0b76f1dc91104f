/- TreePlain in the form of the rows. -/
import Derived.Test.YtbolaohekbmndaaGreatDoorRow
import Derived.Test.YtbolaohekbmndaaGreatDoorL09B
set_option linter.unusedVariables false
namespace Go.Proofs.YtbolaohekbmndaaGreatDoor
theorem Z2o (s:List UInt8) {A:Prop} (_:A):Q0r s=some true:=Z2p s
end Go.Proofs.YtbolaohekbmndaaGreatDoor
