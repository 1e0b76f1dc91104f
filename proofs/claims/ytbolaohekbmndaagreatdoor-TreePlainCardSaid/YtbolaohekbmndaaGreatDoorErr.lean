/- Errors that are only held against nil; arrays of structs as values. It holds for every program. -/
import Derived.Test.YtbolaohekbmndaaGreatDoorArr
import Derived.Test.YtbolaohekbmndaaGreatDoorSeg
import Derived.WideLaws
import Derived.Below
set_option linter.unusedVariables false
namespace Go.Proofs.YtbolaohekbmndaaGreatDoor
section
variable {P:Program} {n:NF} {J:Nat→Value} {L:List (Nat×Value)} {w:World} {d:Nat} {ty:TypeId} {pos:String} {aft:Array Edge} {x y:Operand} {t t2:TypeId}
end
def Gc (T:Nat→Prop) (w:World) (g:Nat) (cs:List Value):Prop:=T g ∧ ∃ t fr,w.heap[g]? = some (.cells cs.toArray t fr)
theorem Gc.mono {T T' : Nat→Prop} {w w' : World} {g:Nat} {cs:List Value} (h:Gc T w g cs) (i:Im T w T' w'):Gc T' w' g cs :=
  ⟨(i g h.1).1,let ⟨t,fr,h2⟩:=h.2; ⟨t,fr,(i g h.1).2.trans h2⟩⟩
theorem Gc.var {P:Program} {T:Nat→Prop} {w:World} {g:Nat} {cs:List Value} {name:String} (h:Gc T w g cs) (hg:P.globalNamed name=some g):w.var? P name=some cs.toArray:=by
  obtain⟨_,t,fr,h2⟩:=h
  simp [World.var?,hg,h2]
theorem Gc.cell {T:Nat→Prop} {w:World} {g:Nat} {cs:List Value} (h:Gc T w g cs) {i:Nat} {v:Value} (hi:cs[i]? = some v):w.cell? ⟨g,i,none⟩=some v:=by
  obtain⟨_,t,fr,h2⟩:=h
  simp [World.cell?,h2,hi]
theorem Gc.of {P:Program} {w:World} {g:Nat} {cs:List Value} {name:String} {T:Nat→Prop} (hg:P.globalNamed name=some g) (h:w.var? P name=some cs.toArray) (hT:g < w.heap.size→T g):Gc T w g cs:=by
  unfold World.var? at h
  rw [hg,Option.bind_some] at h
  split at h
  · rename_i c t fr hh
    cases h
    exact⟨hT (hlt hh),_,_,hh⟩
  · cases h
def Ge (T:Nat→Prop) (w:World) (g:Nat):Prop:=T g ∧ ∃ ev,w.cell? ⟨g,0,none⟩=some ev∧(ev = .nilIface ∨ ∃ te pe,ev = .iface te pe)
theorem Ge.mono {T T' : Nat→Prop} {w w' : World} {g:Nat} (h:Ge T w g) (i:Im T w T' w'):Ge T' w' g:=by
  obtain⟨h1,ev,h2,h3⟩:=h
  refine⟨(i g h1).1,ev,?_,h3⟩
  rw [← h2]
  simp only [World.cell?,(i g h1).2]
theorem inB {T:Nat→Prop} {w w' : World} (hl:Bd T w) (hB:RowKit.Below w.heap.size w w'):Inn w.heap.size noB T w T w' :=
  ⟨⟨hB.os,hB.tape,hB.output,hB.size,fun b hb' _=>hB.block b hb'⟩,fun b hb' => ⟨hb',hB.block b (hl b hb')⟩,fun _ _ h=>h,fun b hb' => Nat.lt_of_lt_of_le (hl b hb') hB.size,hB.size⟩
theorem Sep.below {g:World} {T:Nat→Prop} {w w' : World} {L:List J7} (h:Sep g T w L) (hB:RowKit.Below w.heap.size w w'):Im T w T w' ∧ Sep g T w' L :=
  ⟨(inB h.lt hB).imm,h.keep (inB h.lt hB) (fun _ h=>h)⟩
theorem Sep.fresh {g:World} {T:Nat→Prop} {w:World} {L:List J7} (h:Sep g T w L) (o:Obj):Im T w (fun k=>T k ∨ k=w.heap.size) (w.alloc o)∧Sep g (fun k=>T k ∨ k=w.heap.size) (w.alloc o) L:=by
  have hB:RowKit.Below w.heap.size w (w.alloc o):=(RowKit.Below.refl _ _).alloc (Nat.le_refl _) o
  have i:Inn w.heap.size noB T w (fun k=>T k ∨ k=w.heap.size) (w.alloc o) :=
    ⟨⟨hB.os,hB.tape,hB.output,hB.size,fun b hb' _=>hB.block b hb'⟩,fun b hb' => ⟨.inl hb',hB.block b (h.lt b hb')⟩,fun k hk h=>h.elim id fun e=>by omega,fun b hb' => by
      rcases hb' with hb' | rfl
      · exact Nat.lt_of_lt_of_le (h.lt b hb') hB.size
      · simp,hB.size⟩
  exact⟨i.imm,h.keep i (fun _ h=>h)⟩
end Go.Proofs.YtbolaohekbmndaaGreatDoor
