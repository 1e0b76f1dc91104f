/- A variable that begins with an array: the array as a list, the other cells one by one. It holds for every program. -/
import Derived.Test.YtlnamhpmhcgcpaaGreatDoorKFoc
set_option linter.unusedVariables false
namespace Go.Proofs.YtlnamhpmhcgcpaaGreatDoor

def segH {α : Type} (H : List Value → Assn) (en : α → List Value) (l : List α) (cs : List Value) : Assn := H ((l.map en).flatten ++ cs)
theorem seg_sizes {α : Type} {en : α → List Value} {sz : Nat} (hen : ∀ x, (en x).length = sz) (l : List α) : ∀ c ∈ l.map en, c.length = sz := by
  intro c hc
  obtain ⟨x, _, rfl⟩ := List.mem_map.1 hc
  exact hen x
section
variable {P : Program} {n : NF} {J : Nat → Value} {L : List (Nat × Value)} {w : World} {KK : Act → World → Prop} {Q : Exit → Act → World → Prop} {g : World} {T : Nat → Prop} {G : List Assn} {q d : Nat} {x y : Operand} {t ty : TypeId} {pos : String} {aft : Array Edge}
theorem segAt {α : Type} {T : Nat → Prop} {w : World} {F : Nat → Prop} {H : List Value → Assn} {en : α → List Value} {l : List α} {cs : List Value} {b o sz i : Nat} {u : α} (hF : (segH H en l cs).P T w F) (hL : Ln b o H) (hen : ∀ x, (en x).length = sz) (hu : l[i]? = some u) : cellsAt w b (o + i * sz) (en u) := by
  intro j v hj
  have hm : (l.map en)[i]? = some (en u) := by rw [List.getElem?_map, hu]; rfl
  have hf := flatten_get (seg_sizes hen l) hm hj
  have hlt : i * sz + j < (l.map en).flatten.length := by
    rcases Nat.lt_or_ge (i * sz + j) (l.map en).flatten.length with h | h
    · exact h
    · rw [List.getElem?_eq_none h] at hf; cases hf
  have := hL.rd hF (i * sz + j) v (by rw [List.getElem?_append_left hlt]; exact hf)
  rwa [← Nat.add_assoc] at this
theorem Sep.segEl {α : Type} {H : List Value → Assn} {en : α → List Value} {l : List α} {cs : List Value} {b o of sz : Nat} {i : Int} {u : α} (hS : Sep g T w G) (hi : AtR G q (segH H en l cs)) (hL : Ln b o H) (hen : ∀ x, (en x).length = sz) (hu : idx l i = some u) (he : of = o + i.toNat * sz) : cellsAt w b of (en u) := by
  obtain ⟨F, hF, _⟩ := hS.getA hi
  rw [he]
  exact segAt hF hL hen (idx_some hu).2.2
theorem r_ixA {α : Type} {l : List α} {u : α} {b o of m sz : Nat} {ik : IntKind} {i : Int} {e : TypeId} (hx : ev n J L x = .pointer (some ⟨b, o, none⟩)) (hy : ev n J L y = .int ik i) (hn : l.length = m) (hu : idx l i = some u)
    (ht : P.underlying t = some (.array m e)) (hs : ∀ w, (sizeOf e).run P w = .ok sz w) (ho : of = o + i.toNat * sz) :
    (execOp (ev n J L) ⟨some d, .indexAddr t x y, ty, pos, aft, none⟩).run P w = .ok (.value (.pointer (some ⟨b, of, none⟩))) w := by
  subst ho
  obtain ⟨h0, h1, h2⟩ := idx_some hu
  have h1' : i < (m : Int) := by omega
  simp [execOp, Instr.indexAt, Instr.sureAddr, asIntOf, hx, hy, run_underlying ht, hs, h0, h1', Addr.add_lit]
end
end Go.Proofs.YtlnamhpmhcgcpaaGreatDoor
