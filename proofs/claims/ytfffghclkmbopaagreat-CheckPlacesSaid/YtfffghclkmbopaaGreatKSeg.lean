/- A variable that begins with an array: the array as a list, the other cells one by one. It holds for every program. -/
import Derived.Test.YtfffghclkmbopaaGreatKFoc
set_option linter.unusedVariables false
namespace Go.Proofs.YtfffghclkmbopaaGreat

section
variable {P:Program} {n:NF} {J:Nat→Value} {L:List (Nat×Value)} {w:World} {KK:Act→World→Prop} {Q:Exit→Act→World→Prop} {g:World} {T:Nat→Prop} {G:List Y8} {q d:Nat} {x y:Operand} {t ty:TypeId} {pos:String} {aft:Array Edge}
end
end Go.Proofs.YtfffghclkmbopaaGreat
