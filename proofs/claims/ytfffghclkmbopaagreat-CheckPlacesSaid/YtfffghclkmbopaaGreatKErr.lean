/- Errors that are only held against nil; arrays of structs as values. It holds for every program. -/
import Derived.Test.YtfffghclkmbopaaGreatKArr
import Derived.Test.YtfffghclkmbopaaGreatKSeg
import Derived.WideLaws
import Derived.Below
set_option linter.unusedVariables false
namespace Go.Proofs.YtfffghclkmbopaaGreat
section
variable {P:Program} {n:NF} {J:Nat→Value} {L:List (Nat×Value)} {w:World} {d:Nat} {ty:TypeId} {pos:String} {aft:Array Edge} {x y:Operand} {t t2:TypeId}
end
def Gc (T:Nat→Prop) (w:World) (g:Nat) (cs:List Value):Prop:=T g ∧ ∃ t fr,w.heap[g]? = some (.cells cs.toArray t fr)
theorem Gc.mono {T T' : Nat→Prop} {w w' : World} {g:Nat} {cs:List Value} (h:Gc T w g cs) (i:Im T w T' w'):Gc T' w' g cs :=
  ⟨(i g h.1).1,let ⟨t,fr,h2⟩:=h.2; ⟨t,fr,(i g h.1).2.trans h2⟩⟩
theorem Gc.cell {T:Nat→Prop} {w:World} {g:Nat} {cs:List Value} (h:Gc T w g cs) {i:Nat} {v:Value} (hi:cs[i]? = some v):w.cell? ⟨g,i,none⟩=some v:=by
  obtain⟨_,t,fr,h2⟩:=h
  simp [World.cell?,h2,hi]
theorem Gc.of {P:Program} {w:World} {g:Nat} {cs:List Value} {name:String} {T:Nat→Prop} (hg:P.globalNamed name=some g) (h:w.var? P name=some cs.toArray) (hT:g < w.heap.size→T g):Gc T w g cs:=by
  unfold World.var? at h;rw [hg,Option.bind_some] at h
  split at h
  · rename_i c t fr hh
    cases h;exact⟨hT (hlt hh),_,_,hh⟩
  · cases h
def Ge (T:Nat→Prop) (w:World) (g:Nat):Prop:=T g ∧ ∃ ev,w.cell? ⟨g,0,none⟩=some ev∧(ev = .nilIface ∨ ∃ te pe,ev = .iface te pe)
theorem Ge.mono {T T' : Nat→Prop} {w w' : World} {g:Nat} (h:Ge T w g) (i:Im T w T' w'):Ge T' w' g:=by
  obtain⟨h1,ev,h2,h3⟩:=h;refine⟨(i g h1).1,ev,?_,h3⟩;rw [← h2]
  simp only [World.cell?,(i g h1).2]
end Go.Proofs.YtfffghclkmbopaaGreat
