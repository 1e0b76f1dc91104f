/- Maps over what a function owns. It holds for every program. -/
import Derived.Test.YtecakklofhfphaaGreatDoorKMore
import Derived.WalkSpells
import Derived.Laws.Cover3
set_option linter.unusedVariables false
namespace Go.Proofs.YtecakklofhfphaaGreatDoor

section
variable {P:Program} {ops:Array Oper} {Q:Exit→Act→World→Prop} {rest:List Oper} {n:NF} {J:Nat→Value} {L:List (Nat×Value)} {w w' w0 g:World}
  {d:Nat} {ty:TypeId} {pos:String} {aft:Array Edge} {op:Op} {v:Value} {x y c:Operand} {t t2:TypeId} {T:Nat→Prop} {KK:Act→World→Prop} {Qa:Act→Prop} {C:World→Prop} {G:List Z4} {q p i:Nat}
  {K V:Type} [DecidableEq K] {kd:TypeDesc} {enk:K→Value} {en:V→Value}

end
section
variable {P:Program} {ops:Array Oper} {Q:Exit→Act→World→Prop} {rest:List Oper} {n:NF} {J:Nat→Value} {L:List (Nat×Value)} {w w' w0 g:World}
  {d:Nat} {ty:TypeId} {pos:String} {aft:Array Edge} {op:Op} {v:Value} {x y c:Operand} {t t2:TypeId} {T:Nat→Prop} {KK:Act→World→Prop} {Qa:Act→Prop} {C:World→Prop} {G:List Z4} {q p i:Nat}
  {K V:Type} {enk:K→Value} {en:V→Value}
end
end Go.Proofs.YtecakklofhfphaaGreatDoor
