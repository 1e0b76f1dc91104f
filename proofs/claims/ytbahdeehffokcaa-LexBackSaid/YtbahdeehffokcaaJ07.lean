import Derived.Test.YtbahdeehffokcaaRow
import Derived.Test.YtbahdeehffokcaaL07
set_option linter.unusedVariables false
namespace Go.Proofs.Ytbahdeehffokcaa
theorem LexNames_row (s : List UInt8) {A : Prop} (_ : A) : law07_LexNames s = some true := LexNames_law s
theorem LexLong_row (n : Int) (h : wfI .i64 n) : law07_LexLong n = some true := LexLong_law n (wf_i64 h)
theorem LexBack_row (s : List UInt8) {A : Prop} (_ : A) : law07_LexBack s = some true := LexBack_law s
theorem LexBlanks_row (s : List UInt8) (b : List Int) (_ : s.length ≤ maxLen) (h : (∀ x ∈ b, wfI .u8 x) ∧ b.length ≤ maxLen) : law07_LexBlanks s b = some true := LexBlanks_law s b (fun x hx => wf_u8 (h.1 x hx))
end Go.Proofs.Ytbahdeehffokcaa
