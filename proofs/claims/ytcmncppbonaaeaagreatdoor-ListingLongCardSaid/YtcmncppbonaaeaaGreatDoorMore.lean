/- More operations over what a function owns. It holds for every program. -/
import Derived.Test.YtcmncppbonaaeaaGreatDoorAct
import Derived.Laws.Pointers
import Derived.Laws.BytesArg
import Derived.Lib.ConvBytes
import Derived.Lib.LazyBuf
set_option linter.unusedVariables false
namespace Go.Proofs.YtcmncppbonaaeaaGreatDoor

section
variable {P : Program} {ops : Array Oper} {Q : Exit → Act → World → Prop} {rest : List Oper} {n : NF} {J : Nat → Value} {L : List (Nat × Value)} {w w' w0 g : World}
  {d : Nat} {ty : TypeId} {pos : String} {aft : Array Edge} {op : Op} {v : Value} {x y c : Operand} {t t2 : TypeId} {T : Nat → Prop} {KK : Act → World → Prop} {Qa : Act → Prop} {C : World → Prop} {G : List Assn} {q p i : Nat}

theorem Sep.bx {b : Nat} {cs : List Value} (h : Sep g T w G) (hi : AtR G i (boxA b cs)) : Box w b cs := let ⟨_, ⟨_, h⟩, _⟩ := h.getA hi; h
theorem SlV.ixq {α : Type} {r : Rp α} {l : List α} {v : Value} {i : Int} {u : α} {sz : Nat} (h : SlV r T w v l) (hi : idx l i = some u) (hz : r.sz = sz) :
    ∃ b off cs k cap, v = .slice (some ⟨b, k, none⟩) l.length cap ∧ 0 ≤ i ∧ i < l.length ∧ off = k + i.toNat * sz ∧ r.rp T w cs u ∧ cellsAt w b off cs := by
  subst hz
  obtain ⟨h0, h1, h2⟩ := idx_some hi
  obtain ⟨a, cap, hv, h5, h6, h7⟩ := h
  rcases h7 with rfl | ⟨b, k, rfl, hx⟩
  · simp at h2
  · obtain ⟨cs, hr, hc⟩ := hx _ _ h2
    exact ⟨b, _, cs, k, cap, hv, h0, by omega, rfl, hr, hc⟩
theorem SlR.len {α : Type} {r : Rp α} {l : List α} {a : Option Addr} {m c : Nat} (h : SlR r T w (.slice a m c) l) : m = l.length := by
  obtain ⟨_, _, hv, _⟩ := h
  cases hv
  rfl
theorem SlR.ixT {α : Type} {r : Rp α} {l : List α} {v : Value} {i : Int} {u : α} {sz : Nat} (h : SlR r T w v l) (hi : idx l i = some u) (hz : r.sz = sz) :
    ∃ b off cs k cap, v = .slice (some ⟨b, k, none⟩) l.length cap ∧ 0 ≤ i ∧ i < l.length ∧ off = k + i.toNat * sz ∧ r.rp T w cs u ∧ cellsAt w b off cs ∧ T b := by
  subst hz
  obtain ⟨h0, h1, h2⟩ := idx_some hi
  obtain ⟨a, cap, hv, h5, h6, h7⟩ := h
  rcases h7 with rfl | ⟨b, k, rfl, hT, hx⟩
  · simp at h2
  · obtain ⟨cs, hr, hc⟩ := hx _ _ h2
    exact ⟨b, _, cs, k, cap, hv, h0, by omega, rfl, hr, hc, hT⟩
theorem r_lnV {α : Type} {r : Rp α} {l : List α} {v : Value} {e : TypeId} {T' : Nat → Prop} {w1 : World} (hx : ev n J L x = v) (h : SlV r T' w1 v l) (ht : P.underlying t = some (.slice e)) :
    (execOp (ev n J L) ⟨some d, .call ⟨.builtin .len, #[x], #[t]⟩, ty, pos, aft, none⟩).run P w = .ok (.value (.int .i64 (l.length : Int))) w := by
  obtain ⟨a, c, rfl⟩ := h.shape
  exact r_ln hx ht
theorem r_cvs {l : List Int} {v : Value} {t1 t3 e : TypeId} (hx : ev n J L x = v) (h : ∃ T', SlV (rInt .u8) T' w v l) (hs : P.underlying t1 = some (.slice e)) (he : P.underlying e = some (.int .u8)) (hd : P.underlying t3 = some .string) :
    (execOp (ev n J L) ⟨some d, .convert t1 t3 x, ty, pos, aft, none⟩).run P w = .ok (.value (.string ⟨(bytesStr l).toArray⟩)) w := by
  obtain ⟨T', a, cap, hv, h5, h6, h7⟩ := h
  have hr : (convert t1 t3 v).run P w = .ok (.string ⟨(bytesStr l).toArray⟩) w := by
    rcases h7 with rfl | ⟨b, off, rfl, hc⟩
    · rw [hv]
      rw [run_convert_bytes_string w t1 t3 e _ _ _ hs he hd]
      cases a <;> simp [Conv.bytesToString, loadCells, bytesStr]
      all_goals rfl
    · rw [hv, run_convert_bytes_arg w t1 e hs he b off l.length cap l rfl (fun i hi => ?_) t3 hd]
      · rfl
      · obtain ⟨cs, hr, hcs⟩ := hc i l[i] (List.getElem?_eq_getElem hi)
        have hcs1 := hcs 0 (.int .u8 l[i]) (by have : cs = [.int .u8 l[i]] := hr; rw [this]; rfl)
        have hsz : (rInt .u8).sz = 1 := rfl
        rw [hsz, Nat.mul_one, Nat.add_zero] at hcs1
        rw [hcs1]
        simp [List.getD, hi]
  simp only [execOp, hx, Sem.run_bind, hr, Result.andThen_ok, Sem.run_pure]
end
end Go.Proofs.YtcmncppbonaaeaaGreatDoor
