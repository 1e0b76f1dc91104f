import Derived.Test.YtbahdeehffokcaaRow
import Derived.Test.YtbahdeehffokcaaL07
set_option linter.unusedVariables false
namespace Go.Proofs.Ytbahdeehffokcaa
theorem LexNames_row (s : List UInt8) {A : Prop} (_ : A) : law07_LexNames s = some true := LexNames_law s
theorem LexLong_row (n : Int) (h : wfI .i64 n) : law07_LexLong n = some true := LexLong_law n (wf_i64 h)
end Go.Proofs.Ytbahdeehffokcaa
