import Derived.Test.YthkiglifgbamiaaRow
import Derived.Test.YthkiglifgbamiaaL04
set_option linter.unusedVariables false
namespace Go.Proofs.Ythkiglifgbamiaa
def wfRec (x : Record) : Prop := wfI .u32 x.Seq ∧ wfI .u32 x.Val
theorem wf_of {l : List Record} (h : (∀ x ∈ l, wfRec x) ∧ l.length ≤ maxLen) : Wf l := fun r hr => wf_u32 (h.1 r hr).1
theorem RecordFirsts_row (l : List Record) (h : (∀ x ∈ l, wfI .u32 x.Seq ∧ wfI .u32 x.Val) ∧ l.length ≤ maxLen) : law04_RecordFirsts l = some true := RecordFirsts_law l (wf_of h)
theorem RecordBegins_row (l : List Record) (out : List Int) (h : (∀ x ∈ l, wfI .u32 x.Seq ∧ wfI .u32 x.Val) ∧ l.length ≤ maxLen) (_ : (∀ x ∈ out, wfI .u32 x) ∧ out.length ≤ maxLen) : law04_RecordBegins l out = some true := RecordBegins_law l out (wf_of h)
theorem RecordNumbers_row (l : List Record) (h : (∀ x ∈ l, wfI .u32 x.Seq ∧ wfI .u32 x.Val) ∧ l.length ≤ maxLen) : law04_RecordNumbers l = some true := RecordNumbers_law l (wf_of h)
theorem RecordReplays_row (x : Replay) (h : ((∀ r ∈ x.L, wfI .u32 r.Seq ∧ wfI .u32 r.Val) ∧ x.L.length ≤ maxLen) ∧ (wfI .i64 x.From ∧ (wfI .i64 x.To ∧ wfI .u32 x.Val))) : law04_RecordReplays x = some true := RecordReplays_law x (wf_of h.1)
end Go.Proofs.Ythkiglifgbamiaa
