/- Maps that the function owns, with integers or strings as keys. It holds for every program. -/
import Derived.Test.YtlnamhpmhcgcpaaGreatDoorKApp
set_option linter.unusedVariables false
namespace Go.Proofs.YtlnamhpmhcgcpaaGreatDoor

section
variable {K V : Type} [DecidableEq K] {kd : TypeDesc} {enk : K → Value} {en : V → Value}

end

section
variable {P : Program} {ops : Array Oper} {Q : Exit → Act → World → Prop} {rest : List Oper} {n : NF} {J : Nat → Value} {L : List (Nat × Value)} {w w' w0 : World}
  {d : Nat} {ty : TypeId} {pos : String} {aft : Array Edge} {op : Op} {v : Value} {x y c : Operand} {t t2 : TypeId} {T : Nat → Prop} {KK : Act → World → Prop} {Qa : Act → Prop} {C : World → Prop}
  {K V : Type} [DecidableEq K] {kd : TypeDesc} {enk : K → Value} {en : V → Value} {b : Nat} {m : List (K × V)}

theorem mk (hb : Bd T w) (k : ∀ w' b, Inn w.heap.size noB T w T w' → (∀ (K V : Type) (enk : K → Value) (en : V → Value), MapR enk en w' b []) → w.heap.size ≤ b → ¬ T b → KK (env n J ((d, .map (some b)) :: L)) w') :
    Oper.wp P ⟨some d, .makeMap t none, ty, pos, aft, none⟩ (env n J L) w KK Q := by
  refine w_val (w' := w.alloc (.map #[] 0)) (v := .map (some w.heap.size)) ?_ (k _ _ (inn_alloc hb _) (fun _ _ _ _ => ⟨#[], 0, ?_, by simp⟩) (Nat.le_refl _) (nT_new hb))
  · simp only [execOp, Instr.makeMap, Option.map_none, Sem.run_bind, Sem.run_pure]; rfl
  · rw [show (w.alloc (.map #[] 0)).heap[w.heap.size]? = some (.map #[] 0) from heap_alloc_new w _]

end
end Go.Proofs.YtlnamhpmhcgcpaaGreatDoor
