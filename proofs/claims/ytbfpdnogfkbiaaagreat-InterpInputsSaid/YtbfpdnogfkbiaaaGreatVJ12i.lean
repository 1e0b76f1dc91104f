/- InterpInputs in the form of the rows. -/
import Derived.Test.YtbfpdnogfkbiaaaGreatVLD
set_option linter.unusedVariables false
namespace Go.Proofs.YtbfpdnogfkbiaaaGreat
theorem Y5o(s:List UInt8)(i j:List Int)(_:s.length<=maxLen)(h:(∀x∈i,wfI .u32 x)/\i.length<=maxLen)(g:(∀x∈j,wfI .u32 x)/\j.length<=maxLen):Q5g s i j=some true:=
 Y5p s i j (fun x hx=>X3c (h.1 x hx)) (fun x hx=>X3c (g.1 x hx))
end Go.Proofs.YtbfpdnogfkbiaaaGreat
