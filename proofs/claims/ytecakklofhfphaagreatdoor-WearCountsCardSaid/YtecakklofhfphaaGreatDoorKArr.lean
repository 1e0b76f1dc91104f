/- Arrays as values; package variables that are read. It holds for every program. -/
import Derived.Test.YtecakklofhfphaaGreatDoorKAct
import Derived.Laws.Concat
set_option linter.unusedVariables false
namespace Go.Proofs.YtecakklofhfphaaGreatDoor
section
variable {P:Program} {n:NF} {J:Nat→Value} {L:List (Nat×Value)} {w:World} {d:Nat} {ty:TypeId} {pos:String} {aft:Array Edge} {x y:Operand} {t:TypeId}
end
section
variable {P:Program} {n:NF} {J:Nat→Value} {L:List (Nat×Value)} {w:World} {d:Nat} {ty:TypeId} {pos:String} {aft:Array Edge} {x y:Operand} {t t2:TypeId}
end
def Gi (T:Nat→Prop) (w:World) (g:Nat):Prop:=T g ∧ ∃ m,w.cell? ⟨g,0,none⟩=some (.int .i64 m)
theorem Gi.mono {T T' : Nat→Prop} {w w' : World} {g:Nat} (h:Gi T w g) (i:Im T w T' w'):Gi T' w' g:=by
  obtain⟨h1,m,h2⟩:=h
  refine⟨(i g h1).1,m,?_⟩
  rw [← h2]
  simp only [World.cell?,(i g h1).2]
end Go.Proofs.YtecakklofhfphaaGreatDoor
