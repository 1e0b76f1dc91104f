/- Ranges over functions within a loop: a frame's list of marks. It holds for every program. -/
import Derived.Test.YtlnamhpmhcgcpaaGreatDoorKRange
set_option linter.unusedVariables false
namespace Go.Proofs.YtlnamhpmhcgcpaaGreatDoor

/-- The marks that ranges over functions have left behind. -/
def mks (ds : List Nat) : List Deferred := ds.map fun D => { target := .collected D, args := #[] }
def marksA : List Nat → Assn
  | [] => starL []
  | D :: ds => starL [objA D (.deferred (some [])), marksA ds]
theorem mks_cons (D : Nat) (ds : List Nat) : ({ target := .collected D, args := #[] } : Deferred) :: mks ds = mks (D :: ds) := rfl
theorem Sep.tlM {g w : World} {T : Nat → Prop} {A : Assn} {G : List Assn} (h : Sep g T w (A :: G)) : Sep g T w G := by
  obtain ⟨h1, h2, h3, h4, fs, h5, h6⟩ := h
  refine ⟨h1, h2, h3, h4, fun i => fs (i + 1), ⟨fun i hi => h5.1 (i + 1) (Nat.succ_lt_succ hi), fun i j k hi hj a b => ?_⟩, fun i k hi hk => h6 (i + 1) k (Nat.succ_lt_succ hi) hk⟩
  have := h5.2 _ _ k (Nat.succ_lt_succ hi) (Nat.succ_lt_succ hj) a b
  omega
/-- On the way out they are taken, one by one. -/
theorem leavesMk {P : Program} {fn : Func} {g : World} {tm : Array Value} {R : Ending → World → Prop} {G : List Assn} : ∀ (ds : List Nat) (T : Nat → Prop) (w : World), Sep g T w (marksA ds :: G) →
    ∃ w', Im T w T w' ∧ Sep g T w' G ∧ (LeavesInM Fence.wide 0 P fn tm R [] .returning w' → LeavesInM Fence.wide 0 P fn tm R (mks ds) .returning w) := by
  intro ds
  induction ds with
  | nil => intro T w h; exact ⟨w, Im.refl, h.tlM, id⟩
  | cons D ds ih =>
    intro T w h
    have h1 : Sep g T w (objA D (.deferred (some [])) :: marksA ds :: G) := Sep.unb h
    have hD := (h1.obj 0 rfl rfl).1
    obtain ⟨i1, h2⟩ := h1.setObj 0 rfl rfl (.deferred none)
    obtain ⟨w', i2, h3, hk⟩ := ih T _ (Sep.tlM h2)
    exact ⟨w', i1.trans i2, h3, fun hl => ⟨by simp, .inl ⟨D, _, rfl, run_takeDeferred hD, hk hl⟩⟩⟩
theorem retML {P : Program} {J : Nat → Value} {L : List (Nat × Value)} {w g : World} {T : Nat → Prop} {m : Nat} {ds : List Nat} {fn : Func} {R : Ending → World → Prop} {rs : List ResultVar} {vs : List Value} {u : Value} {G : List Assn}
    (hS : Sep g T w (marksA ds :: G)) (hr : fn.results = rs.toArray) (hu : tupV vs = u) (h : ∀ w', Im T w T w' → Sep g T w' G → RVs P ⟨m, mks ds⟩ J L w' rs vs ∧ R (.returned u) w') :
    bodyPostM Fence.wide 0 P fn R .ret (env ⟨m, mks ds⟩ J L) w := by
  obtain ⟨w', i, h2, hk⟩ := leavesMk (P := P) (fn := fn) (tm := (env ⟨m, mks ds⟩ J L).tmps) (R := R) ds T w hS
  obtain ⟨hv, hR⟩ := h w' i h2
  exact hk ⟨_, resN hr hv hu, hR⟩
theorem mk0 {cd : Code} {P : Program} {Q : Exit → Act → World → Prop} {m : Nat} {J : Nat → Value} {L : List (Nat × Value)} {w : World} (h : cd.wp P Q (env ⟨m, mks []⟩ J L) w) : cd.wp P Q (env (nf m) J L) w := h
theorem mkN {Q : Exit → Act → World → Prop} {m D : Nat} {ds : List Nat} {J : Nat → Value} {L : List (Nat × Value)} {w : World} {e : Exit} (h : Q e (env ⟨m, mks (D :: ds)⟩ J L) w) : Q e (env ⟨m, { target := .collected D, args := #[] } :: mks ds⟩ J L) w := h
theorem mkW {cd : Code} {P : Program} {Q : Exit → Act → World → Prop} {m D : Nat} {ds : List Nat} {J : Nat → Value} {L : List (Nat × Value)} {w : World} (h : cd.wp P Q (env ⟨m, mks (D :: ds)⟩ J L) w) : cd.wp P Q (env ⟨m, { target := .collected D, args := #[] } :: mks ds⟩ J L) w := h
end Go.Proofs.YtlnamhpmhcgcpaaGreatDoor
