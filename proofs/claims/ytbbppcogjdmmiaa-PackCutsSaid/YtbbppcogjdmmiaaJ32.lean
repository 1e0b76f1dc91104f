import Derived.Test.YtbbppcogjdmmiaaRow
import Derived.Test.YtbbppcogjdmmiaaL32
set_option linter.unusedVariables false
namespace Go.Proofs.Ytbbppcogjdmmiaa
theorem byts {l : List Int} (h : (∀ x ∈ l, wfI .u8 x) ∧ l.length ≤ maxLen) : Byt l := fun x hx => wf_u8 (h.1 x hx)
theorem wds {l : List Int} (h : (∀ x ∈ l, wfI .u32 x) ∧ l.length ≤ maxLen) : Wds l := fun x hx => wf_u32 (h.1 x hx)
theorem PackWrites_row (g : GImage) (h : ((∀ x ∈ g.Code, wfI .u32 x) ∧ g.Code.length ≤ maxLen) ∧ (((∀ x ∈ g.Data, wfI .u8 x) ∧ g.Data.length ≤ maxLen) ∧ (wfI .i64 g.Limit ∧ wfI .i64 g.Notes))) : law32_PackWrites g = some true :=
  PackWrites_law g (wds h.1) (byts h.2.1) (wf_i64 h.2.2.1).2
theorem PackReads_row (b : List Int) (h : (∀ x ∈ b, wfI .u8 x) ∧ b.length ≤ maxLen) : law32_PackReads b = some true := PackReads_law b (byts h)
theorem PackCuts_row (g : GImage) (cut more : Int) (h : ((∀ x ∈ g.Code, wfI .u32 x) ∧ g.Code.length ≤ maxLen) ∧ (((∀ x ∈ g.Data, wfI .u8 x) ∧ g.Data.length ≤ maxLen) ∧ (wfI .i64 g.Limit ∧ wfI .i64 g.Notes))) (hc : wfI .i64 cut) (hm : wfI .u8 more) : law32_PackCuts g cut more = some true :=
  PackCuts_law g cut more (wds h.1) (byts h.2.1) (wf_i64 h.2.2.1).2 (wf_u8 hm) (wf_i64 hc)
end Go.Proofs.Ytbbppcogjdmmiaa
