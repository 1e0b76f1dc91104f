/- InterpFuel in the form of the rows. -/
import Derived.Test.YtbfpdnogfkbiaaaGreatVLF
set_option linter.unusedVariables false
namespace Go.Proofs.YtbfpdnogfkbiaaaGreat
theorem Y8d(p:Z3l)(h:p.S.length<=maxLen/\((∀x∈p.Inputs,wfI .u32 x)/\p.Inputs.length<=maxLen)/\wfI .i64 p.N/\wfI .i64 p.More):Q8l p=some true:=
 Y8e p (fun x hx=>X3c (h.2.1.1 x hx))
end Go.Proofs.YtbfpdnogfkbiaaaGreat
