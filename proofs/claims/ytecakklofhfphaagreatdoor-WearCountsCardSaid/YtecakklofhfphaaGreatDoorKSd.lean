/- An element of a list set. It holds for every program. -/
import Derived.Test.YtecakklofhfphaaGreatDoorKPure
set_option linter.unusedVariables false
namespace Go.Proofs.YtecakklofhfphaaGreatDoor

/-- An element set, with a name for what comes of it. -/
def setD {α : Type} (l:List α) (i:Int) (u : α):Option (List α):=some (l.set i.toNat u)
end Go.Proofs.YtecakklofhfphaaGreatDoor
