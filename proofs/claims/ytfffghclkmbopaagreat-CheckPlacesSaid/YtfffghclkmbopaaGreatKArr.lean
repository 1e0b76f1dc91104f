/- Arrays as values; package variables that are read. It holds for every program. -/
import Derived.Test.YtfffghclkmbopaaGreatKAct
import Derived.Laws.Concat
set_option linter.unusedVariables false
namespace Go.Proofs.YtfffghclkmbopaaGreat
section
variable {P:Program} {n:NF} {J:Nat→Value} {L:List (Nat×Value)} {w:World} {d:Nat} {ty:TypeId} {pos:String} {aft:Array Edge} {x y:Operand} {t:TypeId}
theorem r_axi {cs:List Value} {k:IntKind} {i:Int} {u:Value} {e:TypeId} {m:Nat} (hx:ev n J L x = .agg cs.toArray) (hy:ev n J L y = .int k i) (hi:idx cs i=some u) (hm:cs.length=m) (ht:P.underlying t=some (.array m e)) (hs : ∀ w,(sizeOf e).run P w = .ok 1 w) (hg : ∀ w,(isAgg e).run P w = .ok false w) :
    (execOp (ev n J L) ⟨some d,.index t x y,ty,pos,aft,none⟩).run P w = .ok (.value u) w:=by
  subst hm;obtain⟨h0,h1,h2⟩:=Q0u hi;have h3:i.toNat < cs.length:=by omega
  rw [List.getElem?_eq_getElem h3] at h2;cases h2
  simp [execOp,Instr.index,hx,hy,asIntOf,run_underlying ht,h0,h1,hs,part,hg,h3]
theorem idx_map {α β : Type} (f : α → β) {l:List α} {i:Int} {u : α} (h:idx l i=some u):idx (l.map f) i=some (f u):=by
  obtain⟨h0,h1,h2⟩:=Q0u h;unfold idx;rw [if_pos h0,List.getElem?_map,h2]
  rfl
end
section
variable {P:Program} {n:NF} {J:Nat→Value} {L:List (Nat×Value)} {w:World} {d:Nat} {ty:TypeId} {pos:String} {aft:Array Edge} {x y:Operand} {t t2:TypeId}
end
def Gi (T:Nat→Prop) (w:World) (g:Nat):Prop:=T g ∧ ∃ m,w.cell? ⟨g,0,none⟩=some (.int .i64 m)
theorem Gi.mono {T T' : Nat→Prop} {w w' : World} {g:Nat} (h:Gi T w g) (i:Im T w T' w'):Gi T' w' g:=by
  obtain⟨h1,m,h2⟩:=h;refine⟨(i g h1).1,m,?_⟩;rw [← h2]
  simp only [World.cell?,(i g h1).2]
end Go.Proofs.YtfffghclkmbopaaGreat
