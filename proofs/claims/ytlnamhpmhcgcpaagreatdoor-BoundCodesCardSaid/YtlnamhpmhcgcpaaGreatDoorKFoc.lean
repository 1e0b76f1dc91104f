/- Places within owned slices and within variables. It holds for every program. -/
import Derived.Test.YtlnamhpmhcgcpaaGreatDoorKMapS
set_option linter.unusedVariables false
namespace Go.Proofs.YtlnamhpmhcgcpaaGreatDoor

def HoC {α : Type} (r : Rp α) (e : TypeId) (T : Nat → Prop) (w : World) (v : Value) (l : List α) (i : Nat) (cs : List Value) : Prop :=
  ∃ css : List (List Value), css.length = l.length ∧ w.ownsRow 0 e r.sz v l.length css.flatten ∧ css[i]? = some cs ∧ cs.length = r.sz ∧ (∀ (j : Nat) (c : List Value) (x : α), j ≠ i → css[j]? = some c → l[j]? = some x → r.rp T w c x)

theorem HoC.sizes {α : Type} {r : Rp α} {e : TypeId} {T : Nat → Prop} {w : World} {v : Value} {l : List α} {i : Nat} {cs : List Value} {css : List (List Value)} (h1 : css.length = l.length) (h3 : css[i]? = some cs) (h4 : cs.length = r.sz)
    (h5 : ∀ (j : Nat) (c : List Value) (x : α), j ≠ i → css[j]? = some c → l[j]? = some x → r.rp T w c x) : ∀ c ∈ css, c.length = r.sz := by
  intro c hc
  obtain ⟨j, hj, he⟩ := List.getElem_of_mem hc
  by_cases hji : j = i
  · subst hji
    rw [List.getElem?_eq_getElem hj, he] at h3
    cases h3
    exact h4
  · exact r.len (h5 j c l[j] hji (by rw [List.getElem?_eq_getElem hj, he]) (List.getElem?_eq_getElem (by omega)))

section
variable {g : World} {T T' : Nat → Prop} {w w' : World} {G : List Assn} {q : Nat}
end

end Go.Proofs.YtlnamhpmhcgcpaaGreatDoor
