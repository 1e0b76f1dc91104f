/- More operations over what a function owns. It holds for every program. -/
import Derived.Test.YtlnamhpmhcgcpaaGreatDoorKAct
import Derived.Laws.Pointers
import Derived.Laws.BytesArg
import Derived.Lib.ConvBytes
import Derived.Lib.LazyBuf
set_option linter.unusedVariables false
namespace Go.Proofs.YtlnamhpmhcgcpaaGreatDoor

section
variable {P : Program} {ops : Array Oper} {Q : Exit → Act → World → Prop} {rest : List Oper} {n : NF} {J : Nat → Value} {L : List (Nat × Value)} {w w' w0 g : World}
  {d : Nat} {ty : TypeId} {pos : String} {aft : Array Edge} {op : Op} {v : Value} {x y c : Operand} {t t2 : TypeId} {T : Nat → Prop} {KK : Act → World → Prop} {Qa : Act → Prop} {C : World → Prop} {G : List Assn} {q p i : Nat}

theorem Sep.bx {b : Nat} {cs : List Value} (h : Sep g T w G) (hi : AtR G i (boxA b cs)) : Box w b cs := let ⟨_, ⟨_, h⟩, _⟩ := h.getA hi; h
theorem end0 {m : Nat} {fn : Func} {R : Ending → World → Prop} (hr : fn.results = #[]) (hR : R (.returned (.tuple #[])) w) : bodyPost P fn R .normal (env (nf m) J L) w :=
  ⟨rfl, _, results_none hr _ _ _, hR⟩
theorem storeL_all {α : Type} {r : Rp α} {T : Nat → Prop} {w : World} {c0 new : List Value} {u : α} (h : r.rp T w c0 u) (hl : new.length = r.sz) : storeL c0 0 new = new := by
  have := r.len h
  simp [storeL, hl, ← this]
theorem SlV.ixq {α : Type} {r : Rp α} {l : List α} {v : Value} {i : Int} {u : α} {sz : Nat} (h : SlV r T w v l) (hi : idx l i = some u) (hz : r.sz = sz) :
    ∃ b off cs k cap, v = .slice (some ⟨b, k, none⟩) l.length cap ∧ 0 ≤ i ∧ i < l.length ∧ off = k + i.toNat * sz ∧ r.rp T w cs u ∧ cellsAt w b off cs := by
  subst hz
  obtain ⟨h0, h1, h2⟩ := idx_some hi
  obtain ⟨a, cap, hv, h5, h6, h7⟩ := h
  rcases h7 with rfl | ⟨b, k, rfl, hx⟩
  · simp at h2
  · obtain ⟨cs, hr, hc⟩ := hx _ _ h2
    exact ⟨b, _, cs, k, cap, hv, h0, by omega, rfl, hr, hc⟩
theorem SlR.len {α : Type} {r : Rp α} {l : List α} {a : Option Addr} {m c : Nat} (h : SlR r T w (.slice a m c) l) : m = l.length := by
  obtain ⟨_, _, hv, _⟩ := h
  cases hv
  rfl
theorem r_mkf {fn : Fn} {fs cs : Array Operand} {u : Value} (hu : Value.func fn (fs.toList.map (ev n J L)).toArray (cs.toList.map (ev n J L)).toArray = u) :
    (execOp (ev n J L) ⟨some d, .makeFunc fn fs cs, ty, pos, aft, none⟩).run P w = .ok (.value u) w := by
  subst hu
  have h1 : (fs.toList.map (ev n J L)).toArray = fs.map (ev n J L) := by apply Array.ext'; simp
  have h2 : (cs.toList.map (ev n J L)).toArray = cs.map (ev n J L) := by apply Array.ext'; simp
  rw [h1, h2]
  simp [execOp, Instr.makeFunc]
theorem r_lnV {α : Type} {r : Rp α} {l : List α} {v : Value} {e : TypeId} {T' : Nat → Prop} {w1 : World} (hx : ev n J L x = v) (h : SlV r T' w1 v l) (ht : P.underlying t = some (.slice e)) :
    (execOp (ev n J L) ⟨some d, .call ⟨.builtin .len, #[x], #[t]⟩, ty, pos, aft, none⟩).run P w = .ok (.value (.int .i64 (l.length : Int))) w := by
  obtain ⟨a, c, rfl⟩ := h.shape
  exact r_ln hx ht
end
end Go.Proofs.YtlnamhpmhcgcpaaGreatDoor
