/- The laws of the listing in the form of the rows. -/
import Derived.Test.YtcmncppbonaaeaaGreatDoorRow
import Derived.Test.YtcmncppbonaaeaaGreatDoorL06k
set_option linter.unusedVariables false
namespace Go.Proofs.YtcmncppbonaaeaaGreatDoor
theorem ListingLines_row (y : GInst) (h : wfI .i64 y.Op ∧ wfI .i64 y.Rd ∧ wfI .i64 y.Rs1 ∧ wfI .i64 y.Rs2 ∧ wfI .i64 y.Imm) : law06_ListingLines y = some true := by
  have w : ∀ {x : Int}, wfI .i64 x → I64 x := fun h => by have := wf_i64 h; unfold I64; omega
  exact Lines_law y (w h.1) ⟨w h.2.1, w h.2.2.1, w h.2.2.2.1, w h.2.2.2.2⟩
theorem ListingTexts_row (l : List Int) (h : (∀ x ∈ l, wfI .u32 x) ∧ l.length ≤ maxLen) : law06_ListingTexts l = some true := Texts_law l fun x hx => wf_u32 (h.1 x hx)
theorem ListingWords_row (s : List UInt8) {A : Prop} (_ : A) : law06_ListingWords s = some true := Words_law s
theorem ListingLong_row (n : Int) {A : Prop} (_ : A) : law06_ListingLong n = some true := Long_law n
end Go.Proofs.YtcmncppbonaaeaaGreatDoor
