/- A range over a function, told of what functions own. It holds for every program. -/
import Derived.Test.YtfffghclkmbopaaGreatKAct
import Derived.RangeFuncRecord
import Derived.RangeFuncCalls
import Derived.RangeFuncBound
import Derived.OrdersIn
import Derived.Test.YtfffghclkmbopaaGreatKRet
set_option linter.unusedVariables false
namespace Go.Proofs.YtfffghclkmbopaaGreat

def objA (b:Nat) (o:Obj):Y8 where
  P:=fun _ w F=>(∀ k,F k ↔ k=b)∧w.heap[b]? = some o
  loc:=fun h _ hs=>⟨h.1,(hs b (.inr ((h.1 b).2 rfl))).trans h.2⟩
  bnd:=fun h k hk=>by have:=(h.1 k).1 hk; subst this; exact hlt h.2

theorem Ch.putObj (w:World) (b:Nat) (o:Obj):Ch (fun k=>k=b) w (w.putObj b o) :=
  ⟨rfl,rfl,rfl,by simp,fun k _ hn=>World.putObj_heap_other hn⟩
theorem Sep.obj {g:World} {T:Nat→Prop} {w:World} {L:List Y8} {b:Nat} {o:Obj} (h:Sep g T w L) (i:Nat) (hi:Nat.blt i (K6 L)=true) (hA:atA L i=objA b o):w.heap[b]? = some o ∧ ¬ T b:=by
  obtain⟨F,hF,hn⟩:=h.get i hi;rw [hA] at hF;exact⟨hF.2,hn b ((hF.1 b).2 rfl)⟩
theorem Sep.setObj {g:World} {T:Nat→Prop} {w:World} {L:List Y8} {b:Nat} {o:Obj} (h:Sep g T w L) (i:Nat) (hi:Nat.blt i (K6 L)=true) (hA:atA L i=objA b o) (o' : Obj) :
    Im T w T (w.putObj b o')∧Sep g T (w.putObj b o') (N9 L i (objA b o')):=by
  obtain⟨hb,hn⟩:=h.obj i hi hA;have inn:Inn w.heap.size (fun k=>k=b) T w T (w.putObj b o'):=(Inn.refl h.lt (Nat.le_refl _)).ch1 (Ch.putObj w b o') fun k hk=>⟨by subst hk; exact hn,.inr hk⟩;refine⟨fun k hk=>⟨hk,(inn.imm k hk).2⟩,h.put i hi inn fun F hF hFn => ?_⟩;rw [hA] at hF;exact⟨fun k hk=>(hF.1 k).2 hk,F,⟨hF.1,World.putObj_heap_same (hlt hb)⟩,fun k hk=>⟨.inl hk,hFn k hk⟩⟩
/-! ## Operations in a round -/
/-! ## The statement -/
/-! ## Calls of yield -/
/-! ## Assertions with names and with frozen slices in them -/
def exA {ι : Type} (A : ι → Y8):Y8 where
  P:=fun T w F => ∃ i,(A i).P T w F
  loc:=fun⟨i,h⟩ hT hs=>⟨i,(A i).loc h hT hs⟩
  bnd:=fun⟨i,h⟩=>(A i).bnd h
theorem Sep.exE {g:World} {T:Nat→Prop} {w:World} {L:List Y8} {ι : Type} {A : ι → Y8} (h:Sep g T w (exA A::L)) : ∃ i,Sep g T w (A i::L):=by
  obtain⟨h1,h2,h3,h4,fs,h5,h6⟩:=h;obtain⟨i,hi⟩:=h5.1 0 (Nat.succ_pos _);exact⟨i,h1,h2,h3,h4,fs,⟨fun j hj=>match j,hj with | 0,_=>hi | j+1,hj=>h5.1 (j+1) hj,h5.2⟩,h6⟩
theorem Sep.exI {g:World} {T:Nat→Prop} {w:World} {L:List Y8} {ι : Type} {A : ι → Y8} (i : ι) (h:Sep g T w (A i::L)):Sep g T w (exA A::L):=h.imp 0 rfl fun F hF=>⟨i,hF⟩
/-! ## The control of a round -/
section
variable {P:Program} {Q:Exit→Act→World→Prop} {n:NF} {J:Nat→Value} {L:List (Nat×Value)} {w:World} {a:Act} {x y:Code} {l i:Nat} {g:World} {T:Nat→Prop} {R Y:Y8} {j:Option Code}
end

/-! ## A function that holds such a statement -/
/-! ## A region in its own order, in which operations may begin a round -/
/-! ## A region that draws its order, in a round -/
end Go.Proofs.YtfffghclkmbopaaGreat
