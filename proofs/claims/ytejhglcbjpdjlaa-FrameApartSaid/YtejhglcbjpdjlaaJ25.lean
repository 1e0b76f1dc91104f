import Derived.Test.YtejhglcbjpdjlaaRow
import Derived.Test.YtejhglcbjpdjlaaL25
set_option linter.unusedVariables false
namespace Go.Proofs.Ytejhglcbjpdjlaa
theorem FrameLays_row (p : Proc) (l : List Seat) (n : Int) {A B C : Prop} (_ : A) (_ : B) (_ : C) : law25_FrameLays p l n = some true := FrameLays_law p l n
theorem FrameApart_row (p : Proc) (l : List Seat) (n : Int) {A B C : Prop} (_ : A) (_ : B) (_ : C) : law25_FrameApart p l n = some true := FrameApart_law p l n
end Go.Proofs.Ytejhglcbjpdjlaa
