/- CheckPlaces in the form of the rows. -/
import Derived.Test.YtfffghclkmbopaaGreatKRow
import Derived.Test.YtfffghclkmbopaaGreatKL10B
set_option linter.unusedVariables false
namespace Go.Proofs.YtfffghclkmbopaaGreat
theorem Y3s (s:List UInt8) {A:Prop} (_:A):Q4v s=some true:=Y3t s
end Go.Proofs.YtfffghclkmbopaaGreat
