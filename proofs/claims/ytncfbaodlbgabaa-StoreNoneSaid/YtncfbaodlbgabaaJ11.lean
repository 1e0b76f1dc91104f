import Derived.Test.YtncfbaodlbgabaaRow
import Derived.Test.YtncfbaodlbgabaaL11
set_option linter.unusedVariables false
namespace Go.Proofs.Ytncfbaodlbgabaa
theorem StoreBack_row (c : law11Put) {A B : Prop} (h : wfI .i64 c.Size ∧ (wfI .i64 c.At ∧ ((wfI .u32 c.V.Num ∧ A) ∧ (wfI .u32 c.W.Num ∧ B)))) : law11_StoreBack c = some true :=
  StoreBack_law c (wf_i64 h.1) (wf_i64 h.2.1) (wf_u32 h.2.2.1.1) (wf_u32 h.2.2.2.1)
theorem StoreGone_row (a b c : Int) (ha : wfI .i64 a) (hb : wfI .i64 b) (hc : wfI .i64 c) : law11_StoreGone a b c = some true :=
  StoreGone_law a b c (wf_i64 ha) (wf_i64 hb) (wf_i64 hc)
theorem StoreNone_row (p : law11Act) {A : Prop} (_ : A) : law11_StoreNone p = some true := StoreNone_law p
end Go.Proofs.Ytncfbaodlbgabaa
