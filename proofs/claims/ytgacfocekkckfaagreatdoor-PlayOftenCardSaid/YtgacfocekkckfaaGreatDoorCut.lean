/- A slice of this function's own is cut, or its tail cleared. It holds for every program. -/
import Derived.Test.YtgacfocekkckfaaGreatDoorFoc
set_option linter.unusedVariables false
namespace Go.Proofs.YtgacfocekkckfaaGreatDoor

theorem SlV.nilOr {α : Type} {r : Rp α} {T : Nat → Prop} {w : World} {l : List α} {a : Option Addr} {c : Nat} (h : SlV r T w (.slice a l.length c) l) : (a = none ∧ l = []) ∨ a.isNone = false := by
  obtain ⟨a', cap, hv, h5, h6, h7⟩ := h
  cases hv
  rcases h7 with rfl | ⟨b, off, rfl, _⟩
  · cases a with
    | none => exact .inl ⟨rfl, rfl⟩
    | some a => exact .inr rfl
  · exact .inr rfl
theorem flat_len {sz : Nat} : ∀ css : List (List Value), (∀ c ∈ css, c.length = sz) → css.flatten.length = css.length * sz
  | [], _ => by simp
  | c :: css, h => by
    rw [List.flatten_cons, List.length_append, flat_len css (fun x hx => h x (by simp [hx])), h c (by simp), List.length_cons, Nat.succ_mul]
    omega
section
variable {P : Program} {n : NF} {J : Nat → Value} {L : List (Nat × Value)} {w : World} {KK : Act → World → Prop} {Q : Exit → Act → World → Prop} {g : World} {T : Nat → Prop} {G : List Assn} {q d : Nat} {x : Operand} {t ty : TypeId} {pos : String} {aft : Array Edge} {v : Value}
theorem r_slV {α : Type} {r : Rp α} {ad : Option Addr} {l u : List α} {k cap sz : Nat} {e : TypeId} {lo hi : Option Operand} {a b : Int} {T1 : Nat → Prop} {w1 : World}
    (hx : ev n J L x = .slice ad k cap) (h : SlV r T1 w1 (.slice ad k cap) l) (hlo : oev n J L lo 0 a) (hhi : oev n J L hi l.length b) (hs : sub l a b = some u)
    (ht : P.underlying t = some (.slice e)) (hz : ∀ w, (sizeOf e).run P w = .ok sz w) (hr : r.sz = sz)
    (he : Value.slice (if cap = a.toNat then ad else ad.map (·.add (a.toNat * r.sz))) (b.toNat - a.toNat) (cap - a.toNat) = v) :
    (execOp (ev n J L) ⟨some d, .slice t x lo hi none, ty, pos, aft, none⟩).run P w = .ok (.value v) w := by
  subst hr
  obtain ⟨h0, h1, h2, _⟩ := sub_some hs
  obtain ⟨hc, rfl⟩ : l.length ≤ cap ∧ k = l.length := by
    obtain ⟨_, _, hv, h5, _⟩ := h
    cases hv
    exact ⟨h5, rfl⟩
  have hr := r_sl (w := w) (P := P) (d := d) (ty := ty) (pos := pos) (aft := aft) hx hlo hhi h0 h1 h2 hc ht hz
  rw [he] at hr
  exact hr
end
end Go.Proofs.YtgacfocekkckfaaGreatDoor
