/- The law of layer 29 (CompileNone) in the form of the row. -/
import Derived.Test.YtokpeeflnijogaaGreatDoorRow
import Derived.Test.YtokpeeflnijogaaGreatDoorL29e
set_option linter.unusedVariables false
namespace Go.Proofs.YtokpeeflnijogaaGreatDoor
theorem CompileNone_row (s : List UInt8) (k : Int) (o : GOptions) {A B C : Prop} (_ : A) (_ : B) (_ : C) : law29_CompileNone s k o = some true := CompileNone_law s k o
end Go.Proofs.YtokpeeflnijogaaGreatDoor
