/- What the printed walks lean on: joins, loops, ends. It holds for every program. -/
import Derived.Test.YtpdahlpjbckoiaaGreatDoorMap
import Derived.Test.YtpdahlpjbckoiaaGreatDoorModel
import Derived.Deep.LoopGhost
set_option linter.unusedVariables false
namespace Go.Proofs.YtpdahlpjbckoiaaGreatDoor

/-- What the model of a loop says once a round is known. -/
def Nx {S R : Type} (bd : S → Option (Lp S R)) (m : Nat) (z o : Lp S R) : Prop := match z with
  | .go s => loopM bd m s = some o
  | .brk s => o = .brk s
  | .ret r => o = .ret r
theorem loop_round {S R : Type} {bd : S → Option (Lp S R)} {n : Nat} {s : S} {o : Lp S R} (h : loopM bd n s = some o) : ∃ m z, n = m + 1 ∧ bd s = some z ∧ Nx bd m z o := by
  obtain ⟨m, hm, h⟩ := loopM_step h
  rcases h with ⟨s', h1, h2⟩ | ⟨s', h1, h2⟩ | ⟨r, h1, h2⟩
  · exact ⟨m, _, hm, h1, h2⟩
  · exact ⟨m, _, hm, h1, h2⟩
  · exact ⟨m, _, hm, h1, h2⟩
theorem loop_open {S R : Type} {bd : S → Option (Lp S R)} {n : Nat} {s : S} {o : Lp S R} (h : loopM bd n s = some o) : ∃ b, b = bd ∧ loopM b n s = some o := ⟨_, rfl, h⟩
theorem jn_open {κ O : Type} {f : κ → Option O} {k : κ} {r : O} (h : jn f k = some r) : ∃ kk, kk = k ∧ f kk = some r := ⟨_, rfl, h⟩

theorem mimm {T T' : Nat → Prop} {w : World} (h : ∀ k, T k → T' k) : ∀ k, T k → T' k ∧ w.heap[k]? = w.heap[k]? := fun k hk => ⟨h k hk, rfl⟩

section
variable {P : Program} {ops : Array Oper} {Q : Exit → Act → World → Prop} {rest : List Oper} {n : NF} {J : Nat → Value} {L : List (Nat × Value)} {w w' w0 : World}
  {d : Nat} {ty : TypeId} {pos : String} {aft : Array Edge} {op : Op} {v : Value} {x y c : Operand} {t t2 : TypeId} {T : Nat → Prop} {KK : Act → World → Prop} {Qa : Act → Prop} {C : World → Prop} {K : Act → World → Prop}

/-- On to what follows, with these slots alone. -/
theorem t_thenR (M : List (Nat × Value)) (h : Has n J L M) (k : ∀ J', K (env n J' M) w) : Exit.then K Q .normal (env n J L) w := by
  show K (env n J L) w
  rw [env_has h]
  exact k _
theorem wpR {cd : Code} (M : List (Nat × Value)) (h : Has n J L M) (k : ∀ J', cd.wp P Q (env n J' M) w) : cd.wp P Q (env n J L) w := by
  rw [env_has h]
  exact k _

/-- A list of operations in two parts, with what holds between. -/
theorem wcut (K : Act → World → Prop) : ∀ (i : Nat) {l : List Oper} {a : Act} {w : World}, wpList P ops (Exit.then K Q) (l.take i) a w → (∀ a w, K a w → wpList P ops Q (l.drop i) a w) → wpList P ops Q l a w
  | 0, _, _, _, h, k => k _ _ h
  | _ + 1, [], _, _, h, k => k _ _ h
  | i + 1, o :: l, a, w, h, k => by
    simp only [List.take_succ_cons, List.drop_succ_cons] at h k
    unfold wpList at h ⊢
    split
    · rename_i hw
      rw [if_pos hw] at h
      rcases h with h | ⟨h, h'⟩
      · refine .inl ?_
        have hq : ∀ e a w, e ≠ .normal → Exit.then K Q e a w → Q e a w := fun e a w hn hh => by cases e <;> first | exact absurd rfl hn | exact hh
        unfold Oper.wp at h ⊢
        revert h
        generalize (execOp a.eval o).run P w = r
        intro h
        cases r with
        | ok nx w1 =>
          cases nx <;> simp only [Oper.upon] at h ⊢
          case value u => exact wcut K i h k
          case skip => exact wcut K i h k
          case defer u => exact wcut K i h k
          case enter f args =>
            refine h.mono ?_
            intro e w2 he
            cases e with
            | returned u => exact wcut K i he k
            | panicked ch => exact he
            | outgrown => exact he
          case row rw args =>
            refine h.mono ?_
            intro u w2 he
            exact wcut K i he k
        | halt hh w1 =>
          cases hh <;> simp only [Oper.upon] at h ⊢
          exact h
      · exact .inr ⟨h, h'⟩
    · rename_i hw
      rw [if_neg hw] at h
      exact wcut K i h k
theorem qcut (K : Act → Prop) : ∀ (i : Nat) {l : List Oper} {a : Act}, wpQuiet P ops C K (l.take i) a → (∀ a, K a → wpQuiet P ops C Qa (l.drop i) a) → wpQuiet P ops C Qa l a
  | 0, _, _, h, k => k _ h
  | _ + 1, [], _, h, k => k _ h
  | i + 1, o :: l, a, h, k => by
    simp only [List.take_succ_cons, List.drop_succ_cons] at h k
    unfold wpQuiet at h ⊢
    split
    · rename_i hw
      rw [if_pos hw] at h
      exact Oper.quiet_mono (fun a ha => qcut K i ha k) h
    · rename_i hw
      rw [if_neg hw] at h
      exact qcut K i h k

/-- A pick whose test says no. -/
theorem pkf {b b2 : Bool} (hc : ev n J L c = .bool b) (hb : b = false) (hy : ev n J L y = .bool b2) (k' : wpList P ops Q rest (env n J ((d, .bool b2) :: L)) w) :
    wpList P ops Q (⟨some d, .pick c x y, ty, pos, aft, none⟩ :: rest) (env n J L) w := by subst hb; exact o_val (by simp [execOp, hc, hy, go_sem]) k'
theorem pkt {b b1 : Bool} (hc : ev n J L c = .bool b) (hb : b = true) (hx : ev n J L x = .bool b1) (k' : wpList P ops Q rest (env n J ((d, .bool b1) :: L)) w) :
    wpList P ops Q (⟨some d, .pick c x y, ty, pos, aft, none⟩ :: rest) (env n J L) w := by subst hb; exact o_val (by simp [execOp, hc, hx, go_sem]) k'
theorem qpkf {b b2 : Bool} (hc : ev n J L c = .bool b) (hb : b = false) (hy : ev n J L y = .bool b2) (k' : wpQuiet P ops C Qa rest (env n J ((d, .bool b2) :: L))) :
    wpQuiet P ops C Qa (⟨some d, .pick c x y, ty, pos, aft, none⟩ :: rest) (env n J L) := by subst hb; exact q_val (fun w _ => by simp [execOp, hc, hy, go_sem]) k'
theorem qpkt {b b1 : Bool} (hc : ev n J L c = .bool b) (hb : b = true) (hx : ev n J L x = .bool b1) (k' : wpQuiet P ops C Qa rest (env n J ((d, .bool b1) :: L))) :
    wpQuiet P ops C Qa (⟨some d, .pick c x y, ty, pos, aft, none⟩ :: rest) (env n J L) := by subst hb; exact q_val (fun w _ => by simp [execOp, hc, hx, go_sem]) k'
/-- The guard of an operation that is not carried out, its test being false. -/
theorem gF {j d0 : Nat} {b b' : Bool} (hd : (ops[j]?).bind (·.dst) = some d0) (hv : ev n J L (.tmp d0) = .bool b') (hb : b' = !b) (k : wpList P ops Q rest (env n J ((d, undef) :: L)) w) :
    wpList P ops Q (⟨some d, op, ty, pos, aft, some (j, b)⟩ :: rest) (env n J L) w :=
  gf (z := some b') (by unfold yv; rw [hd]; simp only [hv]) (by subst hb; cases b <;> rfl) k
theorem qgF {j d0 : Nat} {b b' : Bool} (hd : (ops[j]?).bind (·.dst) = some d0) (hv : ev n J L (.tmp d0) = .bool b') (hb : b' = !b) (k : wpQuiet P ops C Qa rest (env n J ((d, undef) :: L))) :
    wpQuiet P ops C Qa (⟨some d, op, ty, pos, aft, some (j, b)⟩ :: rest) (env n J L) :=
  qgf (z := some b') (by unfold yv; rw [hd]; simp only [hv]) (by subst hb; cases b <;> rfl) k
/-- Some operations one behind another that are not carried out, by one test. -/
theorem undB {e d0 : Nat} {b : Bool} (hv : ev n J ((e, undef) :: L) (.tmp d0) = .bool b) : ev n J L (.tmp d0) = .bool b := by
  simp only [ev] at hv ⊢
  cases h : Nat.blt d0 n.n with
  | false => rw [h] at hv; cases hv
  | true =>
    rw [h] at hv
    simp only [lk] at hv ⊢
    split at hv
    · cases hv
    · exact hv
theorem gF2 {j d0 : Nat} {b b' : Bool} {e0 : Nat} {o0 : Op} {t0 : TypeId} {s0 : String} {a0 : Array Edge} {e1 : Nat} {o1 : Op} {t1 : TypeId} {s1 : String} {a1 : Array Edge} (hd : (ops[j]?).bind (·.dst) = some d0) (hv : ev n J ((e0, undef) :: L) (.tmp d0) = .bool b') (hb : b' = !b) (k : wpList P ops Q rest (env n J ((e1, undef) :: (e0, undef) :: L)) w) : wpList P ops Q (⟨some e0, o0, t0, s0, a0, some (j, b)⟩ :: ⟨some e1, o1, t1, s1, a1, some (j, b)⟩ :: rest) (env n J L) w :=
  gF hd (undB hv) hb (gF hd hv hb k)
theorem gF3 {j d0 : Nat} {b b' : Bool} {e0 : Nat} {o0 : Op} {t0 : TypeId} {s0 : String} {a0 : Array Edge} {e1 : Nat} {o1 : Op} {t1 : TypeId} {s1 : String} {a1 : Array Edge} {e2 : Nat} {o2 : Op} {t2 : TypeId} {s2 : String} {a2 : Array Edge} (hd : (ops[j]?).bind (·.dst) = some d0) (hv : ev n J ((e1, undef) :: (e0, undef) :: L) (.tmp d0) = .bool b') (hb : b' = !b) (k : wpList P ops Q rest (env n J ((e2, undef) :: (e1, undef) :: (e0, undef) :: L)) w) : wpList P ops Q (⟨some e0, o0, t0, s0, a0, some (j, b)⟩ :: ⟨some e1, o1, t1, s1, a1, some (j, b)⟩ :: ⟨some e2, o2, t2, s2, a2, some (j, b)⟩ :: rest) (env n J L) w :=
  gF hd (undB (undB hv)) hb (gF2 hd hv hb k)
theorem gF4 {j d0 : Nat} {b b' : Bool} {e0 : Nat} {o0 : Op} {t0 : TypeId} {s0 : String} {a0 : Array Edge} {e1 : Nat} {o1 : Op} {t1 : TypeId} {s1 : String} {a1 : Array Edge} {e2 : Nat} {o2 : Op} {t2 : TypeId} {s2 : String} {a2 : Array Edge} {e3 : Nat} {o3 : Op} {t3 : TypeId} {s3 : String} {a3 : Array Edge} (hd : (ops[j]?).bind (·.dst) = some d0) (hv : ev n J ((e2, undef) :: (e1, undef) :: (e0, undef) :: L) (.tmp d0) = .bool b') (hb : b' = !b) (k : wpList P ops Q rest (env n J ((e3, undef) :: (e2, undef) :: (e1, undef) :: (e0, undef) :: L)) w) : wpList P ops Q (⟨some e0, o0, t0, s0, a0, some (j, b)⟩ :: ⟨some e1, o1, t1, s1, a1, some (j, b)⟩ :: ⟨some e2, o2, t2, s2, a2, some (j, b)⟩ :: ⟨some e3, o3, t3, s3, a3, some (j, b)⟩ :: rest) (env n J L) w :=
  gF hd (undB (undB (undB hv))) hb (gF3 hd hv hb k)
theorem gF5 {j d0 : Nat} {b b' : Bool} {e0 : Nat} {o0 : Op} {t0 : TypeId} {s0 : String} {a0 : Array Edge} {e1 : Nat} {o1 : Op} {t1 : TypeId} {s1 : String} {a1 : Array Edge} {e2 : Nat} {o2 : Op} {t2 : TypeId} {s2 : String} {a2 : Array Edge} {e3 : Nat} {o3 : Op} {t3 : TypeId} {s3 : String} {a3 : Array Edge} {e4 : Nat} {o4 : Op} {t4 : TypeId} {s4 : String} {a4 : Array Edge} (hd : (ops[j]?).bind (·.dst) = some d0) (hv : ev n J ((e3, undef) :: (e2, undef) :: (e1, undef) :: (e0, undef) :: L) (.tmp d0) = .bool b') (hb : b' = !b) (k : wpList P ops Q rest (env n J ((e4, undef) :: (e3, undef) :: (e2, undef) :: (e1, undef) :: (e0, undef) :: L)) w) : wpList P ops Q (⟨some e0, o0, t0, s0, a0, some (j, b)⟩ :: ⟨some e1, o1, t1, s1, a1, some (j, b)⟩ :: ⟨some e2, o2, t2, s2, a2, some (j, b)⟩ :: ⟨some e3, o3, t3, s3, a3, some (j, b)⟩ :: ⟨some e4, o4, t4, s4, a4, some (j, b)⟩ :: rest) (env n J L) w :=
  gF hd (undB (undB (undB (undB hv)))) hb (gF4 hd hv hb k)
theorem gF6 {j d0 : Nat} {b b' : Bool} {e0 : Nat} {o0 : Op} {t0 : TypeId} {s0 : String} {a0 : Array Edge} {e1 : Nat} {o1 : Op} {t1 : TypeId} {s1 : String} {a1 : Array Edge} {e2 : Nat} {o2 : Op} {t2 : TypeId} {s2 : String} {a2 : Array Edge} {e3 : Nat} {o3 : Op} {t3 : TypeId} {s3 : String} {a3 : Array Edge} {e4 : Nat} {o4 : Op} {t4 : TypeId} {s4 : String} {a4 : Array Edge} {e5 : Nat} {o5 : Op} {t5 : TypeId} {s5 : String} {a5 : Array Edge} (hd : (ops[j]?).bind (·.dst) = some d0) (hv : ev n J ((e4, undef) :: (e3, undef) :: (e2, undef) :: (e1, undef) :: (e0, undef) :: L) (.tmp d0) = .bool b') (hb : b' = !b) (k : wpList P ops Q rest (env n J ((e5, undef) :: (e4, undef) :: (e3, undef) :: (e2, undef) :: (e1, undef) :: (e0, undef) :: L)) w) : wpList P ops Q (⟨some e0, o0, t0, s0, a0, some (j, b)⟩ :: ⟨some e1, o1, t1, s1, a1, some (j, b)⟩ :: ⟨some e2, o2, t2, s2, a2, some (j, b)⟩ :: ⟨some e3, o3, t3, s3, a3, some (j, b)⟩ :: ⟨some e4, o4, t4, s4, a4, some (j, b)⟩ :: ⟨some e5, o5, t5, s5, a5, some (j, b)⟩ :: rest) (env n J L) w :=
  gF hd (undB (undB (undB (undB (undB hv))))) hb (gF5 hd hv hb k)
theorem gF7 {j d0 : Nat} {b b' : Bool} {e0 : Nat} {o0 : Op} {t0 : TypeId} {s0 : String} {a0 : Array Edge} {e1 : Nat} {o1 : Op} {t1 : TypeId} {s1 : String} {a1 : Array Edge} {e2 : Nat} {o2 : Op} {t2 : TypeId} {s2 : String} {a2 : Array Edge} {e3 : Nat} {o3 : Op} {t3 : TypeId} {s3 : String} {a3 : Array Edge} {e4 : Nat} {o4 : Op} {t4 : TypeId} {s4 : String} {a4 : Array Edge} {e5 : Nat} {o5 : Op} {t5 : TypeId} {s5 : String} {a5 : Array Edge} {e6 : Nat} {o6 : Op} {t6 : TypeId} {s6 : String} {a6 : Array Edge} (hd : (ops[j]?).bind (·.dst) = some d0) (hv : ev n J ((e5, undef) :: (e4, undef) :: (e3, undef) :: (e2, undef) :: (e1, undef) :: (e0, undef) :: L) (.tmp d0) = .bool b') (hb : b' = !b) (k : wpList P ops Q rest (env n J ((e6, undef) :: (e5, undef) :: (e4, undef) :: (e3, undef) :: (e2, undef) :: (e1, undef) :: (e0, undef) :: L)) w) : wpList P ops Q (⟨some e0, o0, t0, s0, a0, some (j, b)⟩ :: ⟨some e1, o1, t1, s1, a1, some (j, b)⟩ :: ⟨some e2, o2, t2, s2, a2, some (j, b)⟩ :: ⟨some e3, o3, t3, s3, a3, some (j, b)⟩ :: ⟨some e4, o4, t4, s4, a4, some (j, b)⟩ :: ⟨some e5, o5, t5, s5, a5, some (j, b)⟩ :: ⟨some e6, o6, t6, s6, a6, some (j, b)⟩ :: rest) (env n J L) w :=
  gF hd (undB (undB (undB (undB (undB (undB hv)))))) hb (gF6 hd hv hb k)
theorem gF8 {j d0 : Nat} {b b' : Bool} {e0 : Nat} {o0 : Op} {t0 : TypeId} {s0 : String} {a0 : Array Edge} {e1 : Nat} {o1 : Op} {t1 : TypeId} {s1 : String} {a1 : Array Edge} {e2 : Nat} {o2 : Op} {t2 : TypeId} {s2 : String} {a2 : Array Edge} {e3 : Nat} {o3 : Op} {t3 : TypeId} {s3 : String} {a3 : Array Edge} {e4 : Nat} {o4 : Op} {t4 : TypeId} {s4 : String} {a4 : Array Edge} {e5 : Nat} {o5 : Op} {t5 : TypeId} {s5 : String} {a5 : Array Edge} {e6 : Nat} {o6 : Op} {t6 : TypeId} {s6 : String} {a6 : Array Edge} {e7 : Nat} {o7 : Op} {t7 : TypeId} {s7 : String} {a7 : Array Edge} (hd : (ops[j]?).bind (·.dst) = some d0) (hv : ev n J ((e6, undef) :: (e5, undef) :: (e4, undef) :: (e3, undef) :: (e2, undef) :: (e1, undef) :: (e0, undef) :: L) (.tmp d0) = .bool b') (hb : b' = !b) (k : wpList P ops Q rest (env n J ((e7, undef) :: (e6, undef) :: (e5, undef) :: (e4, undef) :: (e3, undef) :: (e2, undef) :: (e1, undef) :: (e0, undef) :: L)) w) : wpList P ops Q (⟨some e0, o0, t0, s0, a0, some (j, b)⟩ :: ⟨some e1, o1, t1, s1, a1, some (j, b)⟩ :: ⟨some e2, o2, t2, s2, a2, some (j, b)⟩ :: ⟨some e3, o3, t3, s3, a3, some (j, b)⟩ :: ⟨some e4, o4, t4, s4, a4, some (j, b)⟩ :: ⟨some e5, o5, t5, s5, a5, some (j, b)⟩ :: ⟨some e6, o6, t6, s6, a6, some (j, b)⟩ :: ⟨some e7, o7, t7, s7, a7, some (j, b)⟩ :: rest) (env n J L) w :=
  gF hd (undB (undB (undB (undB (undB (undB (undB hv))))))) hb (gF7 hd hv hb k)
theorem qgF2 {j d0 : Nat} {b b' : Bool} {e0 : Nat} {o0 : Op} {t0 : TypeId} {s0 : String} {a0 : Array Edge} {e1 : Nat} {o1 : Op} {t1 : TypeId} {s1 : String} {a1 : Array Edge} (hd : (ops[j]?).bind (·.dst) = some d0) (hv : ev n J ((e0, undef) :: L) (.tmp d0) = .bool b') (hb : b' = !b) (k : wpQuiet P ops C Qa rest (env n J ((e1, undef) :: (e0, undef) :: L))) : wpQuiet P ops C Qa (⟨some e0, o0, t0, s0, a0, some (j, b)⟩ :: ⟨some e1, o1, t1, s1, a1, some (j, b)⟩ :: rest) (env n J L) :=
  qgF hd (undB hv) hb (qgF hd hv hb k)
theorem qgF3 {j d0 : Nat} {b b' : Bool} {e0 : Nat} {o0 : Op} {t0 : TypeId} {s0 : String} {a0 : Array Edge} {e1 : Nat} {o1 : Op} {t1 : TypeId} {s1 : String} {a1 : Array Edge} {e2 : Nat} {o2 : Op} {t2 : TypeId} {s2 : String} {a2 : Array Edge} (hd : (ops[j]?).bind (·.dst) = some d0) (hv : ev n J ((e1, undef) :: (e0, undef) :: L) (.tmp d0) = .bool b') (hb : b' = !b) (k : wpQuiet P ops C Qa rest (env n J ((e2, undef) :: (e1, undef) :: (e0, undef) :: L))) : wpQuiet P ops C Qa (⟨some e0, o0, t0, s0, a0, some (j, b)⟩ :: ⟨some e1, o1, t1, s1, a1, some (j, b)⟩ :: ⟨some e2, o2, t2, s2, a2, some (j, b)⟩ :: rest) (env n J L) :=
  qgF hd (undB (undB hv)) hb (qgF2 hd hv hb k)
theorem qgF4 {j d0 : Nat} {b b' : Bool} {e0 : Nat} {o0 : Op} {t0 : TypeId} {s0 : String} {a0 : Array Edge} {e1 : Nat} {o1 : Op} {t1 : TypeId} {s1 : String} {a1 : Array Edge} {e2 : Nat} {o2 : Op} {t2 : TypeId} {s2 : String} {a2 : Array Edge} {e3 : Nat} {o3 : Op} {t3 : TypeId} {s3 : String} {a3 : Array Edge} (hd : (ops[j]?).bind (·.dst) = some d0) (hv : ev n J ((e2, undef) :: (e1, undef) :: (e0, undef) :: L) (.tmp d0) = .bool b') (hb : b' = !b) (k : wpQuiet P ops C Qa rest (env n J ((e3, undef) :: (e2, undef) :: (e1, undef) :: (e0, undef) :: L))) : wpQuiet P ops C Qa (⟨some e0, o0, t0, s0, a0, some (j, b)⟩ :: ⟨some e1, o1, t1, s1, a1, some (j, b)⟩ :: ⟨some e2, o2, t2, s2, a2, some (j, b)⟩ :: ⟨some e3, o3, t3, s3, a3, some (j, b)⟩ :: rest) (env n J L) :=
  qgF hd (undB (undB (undB hv))) hb (qgF3 hd hv hb k)
theorem qgF5 {j d0 : Nat} {b b' : Bool} {e0 : Nat} {o0 : Op} {t0 : TypeId} {s0 : String} {a0 : Array Edge} {e1 : Nat} {o1 : Op} {t1 : TypeId} {s1 : String} {a1 : Array Edge} {e2 : Nat} {o2 : Op} {t2 : TypeId} {s2 : String} {a2 : Array Edge} {e3 : Nat} {o3 : Op} {t3 : TypeId} {s3 : String} {a3 : Array Edge} {e4 : Nat} {o4 : Op} {t4 : TypeId} {s4 : String} {a4 : Array Edge} (hd : (ops[j]?).bind (·.dst) = some d0) (hv : ev n J ((e3, undef) :: (e2, undef) :: (e1, undef) :: (e0, undef) :: L) (.tmp d0) = .bool b') (hb : b' = !b) (k : wpQuiet P ops C Qa rest (env n J ((e4, undef) :: (e3, undef) :: (e2, undef) :: (e1, undef) :: (e0, undef) :: L))) : wpQuiet P ops C Qa (⟨some e0, o0, t0, s0, a0, some (j, b)⟩ :: ⟨some e1, o1, t1, s1, a1, some (j, b)⟩ :: ⟨some e2, o2, t2, s2, a2, some (j, b)⟩ :: ⟨some e3, o3, t3, s3, a3, some (j, b)⟩ :: ⟨some e4, o4, t4, s4, a4, some (j, b)⟩ :: rest) (env n J L) :=
  qgF hd (undB (undB (undB (undB hv)))) hb (qgF4 hd hv hb k)
theorem qgF6 {j d0 : Nat} {b b' : Bool} {e0 : Nat} {o0 : Op} {t0 : TypeId} {s0 : String} {a0 : Array Edge} {e1 : Nat} {o1 : Op} {t1 : TypeId} {s1 : String} {a1 : Array Edge} {e2 : Nat} {o2 : Op} {t2 : TypeId} {s2 : String} {a2 : Array Edge} {e3 : Nat} {o3 : Op} {t3 : TypeId} {s3 : String} {a3 : Array Edge} {e4 : Nat} {o4 : Op} {t4 : TypeId} {s4 : String} {a4 : Array Edge} {e5 : Nat} {o5 : Op} {t5 : TypeId} {s5 : String} {a5 : Array Edge} (hd : (ops[j]?).bind (·.dst) = some d0) (hv : ev n J ((e4, undef) :: (e3, undef) :: (e2, undef) :: (e1, undef) :: (e0, undef) :: L) (.tmp d0) = .bool b') (hb : b' = !b) (k : wpQuiet P ops C Qa rest (env n J ((e5, undef) :: (e4, undef) :: (e3, undef) :: (e2, undef) :: (e1, undef) :: (e0, undef) :: L))) : wpQuiet P ops C Qa (⟨some e0, o0, t0, s0, a0, some (j, b)⟩ :: ⟨some e1, o1, t1, s1, a1, some (j, b)⟩ :: ⟨some e2, o2, t2, s2, a2, some (j, b)⟩ :: ⟨some e3, o3, t3, s3, a3, some (j, b)⟩ :: ⟨some e4, o4, t4, s4, a4, some (j, b)⟩ :: ⟨some e5, o5, t5, s5, a5, some (j, b)⟩ :: rest) (env n J L) :=
  qgF hd (undB (undB (undB (undB (undB hv))))) hb (qgF5 hd hv hb k)
theorem qgF7 {j d0 : Nat} {b b' : Bool} {e0 : Nat} {o0 : Op} {t0 : TypeId} {s0 : String} {a0 : Array Edge} {e1 : Nat} {o1 : Op} {t1 : TypeId} {s1 : String} {a1 : Array Edge} {e2 : Nat} {o2 : Op} {t2 : TypeId} {s2 : String} {a2 : Array Edge} {e3 : Nat} {o3 : Op} {t3 : TypeId} {s3 : String} {a3 : Array Edge} {e4 : Nat} {o4 : Op} {t4 : TypeId} {s4 : String} {a4 : Array Edge} {e5 : Nat} {o5 : Op} {t5 : TypeId} {s5 : String} {a5 : Array Edge} {e6 : Nat} {o6 : Op} {t6 : TypeId} {s6 : String} {a6 : Array Edge} (hd : (ops[j]?).bind (·.dst) = some d0) (hv : ev n J ((e5, undef) :: (e4, undef) :: (e3, undef) :: (e2, undef) :: (e1, undef) :: (e0, undef) :: L) (.tmp d0) = .bool b') (hb : b' = !b) (k : wpQuiet P ops C Qa rest (env n J ((e6, undef) :: (e5, undef) :: (e4, undef) :: (e3, undef) :: (e2, undef) :: (e1, undef) :: (e0, undef) :: L))) : wpQuiet P ops C Qa (⟨some e0, o0, t0, s0, a0, some (j, b)⟩ :: ⟨some e1, o1, t1, s1, a1, some (j, b)⟩ :: ⟨some e2, o2, t2, s2, a2, some (j, b)⟩ :: ⟨some e3, o3, t3, s3, a3, some (j, b)⟩ :: ⟨some e4, o4, t4, s4, a4, some (j, b)⟩ :: ⟨some e5, o5, t5, s5, a5, some (j, b)⟩ :: ⟨some e6, o6, t6, s6, a6, some (j, b)⟩ :: rest) (env n J L) :=
  qgF hd (undB (undB (undB (undB (undB (undB hv)))))) hb (qgF6 hd hv hb k)
theorem qgF8 {j d0 : Nat} {b b' : Bool} {e0 : Nat} {o0 : Op} {t0 : TypeId} {s0 : String} {a0 : Array Edge} {e1 : Nat} {o1 : Op} {t1 : TypeId} {s1 : String} {a1 : Array Edge} {e2 : Nat} {o2 : Op} {t2 : TypeId} {s2 : String} {a2 : Array Edge} {e3 : Nat} {o3 : Op} {t3 : TypeId} {s3 : String} {a3 : Array Edge} {e4 : Nat} {o4 : Op} {t4 : TypeId} {s4 : String} {a4 : Array Edge} {e5 : Nat} {o5 : Op} {t5 : TypeId} {s5 : String} {a5 : Array Edge} {e6 : Nat} {o6 : Op} {t6 : TypeId} {s6 : String} {a6 : Array Edge} {e7 : Nat} {o7 : Op} {t7 : TypeId} {s7 : String} {a7 : Array Edge} (hd : (ops[j]?).bind (·.dst) = some d0) (hv : ev n J ((e6, undef) :: (e5, undef) :: (e4, undef) :: (e3, undef) :: (e2, undef) :: (e1, undef) :: (e0, undef) :: L) (.tmp d0) = .bool b') (hb : b' = !b) (k : wpQuiet P ops C Qa rest (env n J ((e7, undef) :: (e6, undef) :: (e5, undef) :: (e4, undef) :: (e3, undef) :: (e2, undef) :: (e1, undef) :: (e0, undef) :: L))) : wpQuiet P ops C Qa (⟨some e0, o0, t0, s0, a0, some (j, b)⟩ :: ⟨some e1, o1, t1, s1, a1, some (j, b)⟩ :: ⟨some e2, o2, t2, s2, a2, some (j, b)⟩ :: ⟨some e3, o3, t3, s3, a3, some (j, b)⟩ :: ⟨some e4, o4, t4, s4, a4, some (j, b)⟩ :: ⟨some e5, o5, t5, s5, a5, some (j, b)⟩ :: ⟨some e6, o6, t6, s6, a6, some (j, b)⟩ :: ⟨some e7, o7, t7, s7, a7, some (j, b)⟩ :: rest) (env n J L) :=
  qgF hd (undB (undB (undB (undB (undB (undB (undB hv))))))) hb (qgF7 hd hv hb k)
/-- The guard of an operation that was behind one that is not carried out. -/
theorem gU {j d0 : Nat} {b : Bool} (hd : (ops[j]?).bind (·.dst) = some d0) (hv : ev n J L (.tmp d0) = undef) (k : wpList P ops Q rest (env n J ((d, undef) :: L)) w) :
    wpList P ops Q (⟨some d, op, ty, pos, aft, some (j, b)⟩ :: rest) (env n J L) w :=
  gf (z := none) (by unfold yv; rw [hd]; simp only [hv, undef]) rfl k
theorem qgU {j d0 : Nat} {b : Bool} (hd : (ops[j]?).bind (·.dst) = some d0) (hv : ev n J L (.tmp d0) = undef) (k : wpQuiet P ops C Qa rest (env n J ((d, undef) :: L))) :
    wpQuiet P ops C Qa (⟨some d, op, ty, pos, aft, some (j, b)⟩ :: rest) (env n J L) :=
  qgf (z := none) (by unfold yv; rw [hd]; simp only [hv, undef]) rfl k
/-- A test of two parts: what is behind it is said once. -/
theorem fk {c : Bool} {full : List Oper} (k : Nat) (M : List (Nat × Value)) (h : (∀ (J' : Nat → Value) (b : Bool), b = c → wpList P ops Q (full.drop k) (env n J' ((d, .bool b) :: M)) w) → wpList P ops Q full (env n J L) w) (hk : ∀ J' : Nat → Value, wpList P ops Q (full.drop k) (env n J' ((d, .bool c) :: M)) w) : wpList P ops Q full (env n J L) w := h fun J' b e => by subst e; exact hk J'
theorem wlR {b : Bool} {M : List (Nat × Value)} (h : ∀ J' : Nat → Value, wpList P ops Q rest (env n J' ((d, .bool b) :: M)) w) (hs : Has n J L ((d, .bool b) :: M)) : wpList P ops Q rest (env n J L) w := by
  rw [env_has hs]
  exact h _
theorem gT {j d0 : Nat} {b b' : Bool} {dst : Option Nat} (hd : (ops[j]?).bind (·.dst) = some d0) (hv : ev n J L (.tmp d0) = .bool b') (hb : b' = b) (k : wpList P ops Q (⟨dst, op, ty, pos, aft, none⟩ :: rest) (env n J L) w) :
    wpList P ops Q (⟨dst, op, ty, pos, aft, some (j, b)⟩ :: rest) (env n J L) w :=
  gt (by unfold yv; rw [hd]; simp only [hv, hb]) k
theorem qgT {j d0 : Nat} {b b' : Bool} {dst : Option Nat} (hd : (ops[j]?).bind (·.dst) = some d0) (hv : ev n J L (.tmp d0) = .bool b') (hb : b' = b) (k : wpQuiet P ops C Qa (⟨dst, op, ty, pos, aft, none⟩ :: rest) (env n J L)) :
    wpQuiet P ops C Qa (⟨dst, op, ty, pos, aft, some (j, b)⟩ :: rest) (env n J L) :=
  qgt (by unfold yv; rw [hd]; simp only [hv, hb]) k

/-- The length of a slice that the function owns. -/
theorem lnO {α : Type} {r : Rp α} {l : List α} {v : Value} {e e' : TypeId} {B : Nat} (hx : ev n J L x = v) (h : OwS r e' B T w v l) (ht : P.underlying t = some (.slice e)) (k' : wpList P ops Q rest (env n J ((d, .int .i64 (l.length : Int)) :: L)) w) :
    wpList P ops Q (⟨some d, .call ⟨.builtin .len, #[x], #[t]⟩, ty, pos, aft, none⟩ :: rest) (env n J L) w := by
  obtain ⟨a, c, rfl⟩ := h.shape
  exact ln hx ht k'
theorem qlnO {α : Type} {r : Rp α} {l : List α} {v : Value} {e e' : TypeId} {B : Nat} (hx : ev n J L x = v) (h : OwS r e' B T w v l) (ht : P.underlying t = some (.slice e)) (k' : wpQuiet P ops C Qa rest (env n J ((d, .int .i64 (l.length : Int)) :: L))) :
    wpQuiet P ops C Qa (⟨some d, .call ⟨.builtin .len, #[x], #[t]⟩, ty, pos, aft, none⟩ :: rest) (env n J L) := by
  obtain ⟨a, c, rfl⟩ := h.shape
  exact qln hx ht k'
/-- The address of an element of a slice that the function owns. -/
theorem ixO {α : Type} {r : Rp α} {l : List α} {v : Value} {k : IntKind} {i : Int} {e e' : TypeId} {u : α} {sz B : Nat} (hx : ev n J L x = v) (hy : ev n J L y = .int k i) (h : OwS r e' B T w v l) (hi : idx l i = some u)
    (ht : P.underlying t = some (.slice e)) (hs : ∀ w, (sizeOf e).run P w = .ok sz w) (hz : r.sz = sz)
    (k' : ∀ b off cs, r.rp T w cs u → cellsAt w b off cs → wpList P ops Q rest (env n J ((d, .pointer (some ⟨b, off, none⟩)) :: L)) w) :
    wpList P ops Q (⟨some d, .indexAddr t x y, ty, pos, aft, none⟩ :: rest) (env n J L) w := by
  subst hz
  obtain ⟨h0, h1, h2⟩ := idx_some hi
  obtain ⟨b, cap, cs, hv, _, hr, hc⟩ := h.atI h2
  exact ix (hx.trans hv) hy ht hs h0 (by omega) (k' _ _ cs hr hc)
theorem qixO {α : Type} {r : Rp α} {l : List α} {v : Value} {k : IntKind} {i : Int} {e e' : TypeId} {u : α} {sz B : Nat} (hx : ev n J L x = v) (hy : ev n J L y = .int k i) (h : OwS r e' B T w0 v l) (hi : idx l i = some u)
    (ht : P.underlying t = some (.slice e)) (hs : ∀ w, (sizeOf e).run P w = .ok sz w) (hz : r.sz = sz)
    (k' : ∀ b off cs, r.rp T w0 cs u → cellsAt w0 b off cs → wpQuiet P ops C Qa rest (env n J ((d, .pointer (some ⟨b, off, none⟩)) :: L))) :
    wpQuiet P ops C Qa (⟨some d, .indexAddr t x y, ty, pos, aft, none⟩ :: rest) (env n J L) := by
  subst hz
  obtain ⟨h0, h1, h2⟩ := idx_some hi
  obtain ⟨b, cap, cs, hv, _, hr, hc⟩ := h.atI h2
  exact qix (hx.trans hv) hy ht hs h0 (by omega) (k' _ _ cs hr hc)
/-- A field of a struct in a slot. -/
theorem r_fdA {cs : Array Value} {fs : Array Field} {fd : Field} {f sz : Nat} {u : Value} (hx : ev n J L x = .agg cs) (ht : P.underlying t = some (.struct fs)) (hf : fs[f]? = some fd) (hg : ∀ w, (isAgg fd.type).run P w = .ok true w) (hs : ∀ w, (sizeOf fd.type).run P w = .ok sz w) (hc : Value.agg (cs.extract fd.offset (fd.offset + sz)) = u) :
    (execOp (ev n J L) ⟨some d, .field t x f, ty, pos, aft, none⟩).run P w = .ok (.value u) w := by
  subst hc
  simp [execOp, Instr.field, run_underlying ht, hf, part, hg, hs, hx, asAgg]
theorem r_fd1 {cs : Array Value} {fs : Array Field} {fd : Field} {f : Nat} {u : Value} (hx : ev n J L x = .agg cs) (ht : P.underlying t = some (.struct fs)) (hf : fs[f]? = some fd) (hg : ∀ w, (isAgg fd.type).run P w = .ok false w) (hc : cs[fd.offset]? = some u) :
    (execOp (ev n J L) ⟨some d, .field t x f, ty, pos, aft, none⟩).run P w = .ok (.value u) w := by
  simp [execOp, Instr.field, run_underlying ht, hf, part, hg, hx, asAgg, hc]
theorem fdA {cs : Array Value} {fs : Array Field} {fd : Field} {f sz : Nat} {u : Value} (hx : ev n J L x = .agg cs) (ht : P.underlying t = some (.struct fs)) (hf : fs[f]? = some fd) (hg : ∀ w, (isAgg fd.type).run P w = .ok true w) (hs : ∀ w, (sizeOf fd.type).run P w = .ok sz w) (hc : Value.agg (cs.extract fd.offset (fd.offset + sz)) = u)
    (k' : wpList P ops Q rest (env n J ((d, u) :: L)) w) : wpList P ops Q (⟨some d, .field t x f, ty, pos, aft, none⟩ :: rest) (env n J L) w := by
  subst hc
  exact o_val (by simp [execOp, Instr.field, run_underlying ht, hf, part, hg, hs, hx, asAgg]) k'
theorem fd1 {cs : Array Value} {fs : Array Field} {fd : Field} {f : Nat} {u : Value} (hx : ev n J L x = .agg cs) (ht : P.underlying t = some (.struct fs)) (hf : fs[f]? = some fd) (hg : ∀ w, (isAgg fd.type).run P w = .ok false w) (hc : cs[fd.offset]? = some u)
    (k' : wpList P ops Q rest (env n J ((d, u) :: L)) w) : wpList P ops Q (⟨some d, .field t x f, ty, pos, aft, none⟩ :: rest) (env n J L) w :=
  o_val (by simp [execOp, Instr.field, run_underlying ht, hf, part, hg, hx, asAgg, hc]) k'
theorem qfd1 {cs : Array Value} {fs : Array Field} {fd : Field} {f : Nat} {u : Value} (hx : ev n J L x = .agg cs) (ht : P.underlying t = some (.struct fs)) (hf : fs[f]? = some fd) (hg : ∀ w, (isAgg fd.type).run P w = .ok false w) (hc : cs[fd.offset]? = some u)
    (k' : wpQuiet P ops C Qa rest (env n J ((d, u) :: L))) : wpQuiet P ops C Qa (⟨some d, .field t x f, ty, pos, aft, none⟩ :: rest) (env n J L) :=
  q_val (fun w _ => by simp [execOp, Instr.field, run_underlying ht, hf, part, hg, hx, asAgg, hc]) k'
/-- A struct literal. -/
theorem r_bd {parts : Array (Nat × Operand)} {cells : Array Value} {u : Value} (h : P.built t (parts.toList.map fun p => (p.1, ev n J L p.2)) = some cells) (hu : Value.agg cells = u) :
    (execOp (ev n J L) ⟨some d, .build t parts, ty, pos, aft, none⟩).run P w = .ok (.value u) w := by
  subst hu
  have hp : (Array.map (fun p : Nat × Operand => (p.1, ev n J L p.2)) parts).toList = parts.toList.map fun p => (p.1, ev n J L p.2) := by simp
  have := run_build (P := P) w t (parts.map fun p => (p.1, ev n J L p.2)) cells (by rw [hp]; exact h)
  simp only [execOp, Sem.run_bind, this, Result.andThen_ok, Sem.run_pure]
theorem bd {parts : Array (Nat × Operand)} {cells : Array Value} {u : Value} (h : P.built t (parts.toList.map fun p => (p.1, ev n J L p.2)) = some cells) (hu : Value.agg cells = u)
    (k' : wpList P ops Q rest (env n J ((d, u) :: L)) w) : wpList P ops Q (⟨some d, .build t parts, ty, pos, aft, none⟩ :: rest) (env n J L) w := by
  subst hu
  refine o_val ?_ k'
  have hp : (Array.map (fun p : Nat × Operand => (p.1, ev n J L p.2)) parts).toList = parts.toList.map fun p => (p.1, ev n J L p.2) := by simp
  have := run_build (P := P) w t (parts.map fun p => (p.1, ev n J L p.2)) cells (by rw [hp]; exact h)
  simp only [execOp, Sem.run_bind, this, Result.andThen_ok, Sem.run_pure]
theorem qbd {parts : Array (Nat × Operand)} {cells : Array Value} {u : Value} (h : P.built t (parts.toList.map fun p => (p.1, ev n J L p.2)) = some cells) (hu : Value.agg cells = u)
    (k' : wpQuiet P ops C Qa rest (env n J ((d, u) :: L))) : wpQuiet P ops C Qa (⟨some d, .build t parts, ty, pos, aft, none⟩ :: rest) (env n J L) := by
  subst hu
  refine q_val (fun w _ => ?_) k'
  have hp : (Array.map (fun p : Nat × Operand => (p.1, ev n J L p.2)) parts).toList = parts.toList.map fun p => (p.1, ev n J L p.2) := by simp
  have := run_build (P := P) w t (parts.map fun p => (p.1, ev n J L p.2)) cells (by rw [hp]; exact h)
  simp only [execOp, Sem.run_bind, this, Result.andThen_ok, Sem.run_pure]
end

theorem dj_new {α : Type} {r : Rp α} {e : TypeId} {B : Nat} {T : Nat → Prop} {w : World} {v : Value} {l : List α} (h : OwS r e B T w v l) {b : Nat} (hb : w.heap.size ≤ b) : Dj v b := fun k hk => by have := (h.lt k hk).2; omega
theorem dj_nil {b n m : Nat} : Dj (.slice none n m) b := fun k hk => by simp [Value.ownBlock] at hk
def Dj2 (v1 v2 : Value) : Prop := ∀ k, v2.ownBlock = some k → Dj v1 k
theorem Dj2.symm {v1 v2 : Value} (h : Dj2 v1 v2) : Dj2 v2 v1 := fun k hk j hj => fun e => h j hj k hk e.symm
theorem dj2_nil {v : Value} {n m : Nat} : Dj2 v (.slice none n m) := fun k hk => by simp [Value.ownBlock] at hk
theorem SlR_nil {α : Type} {r : Rp α} {T : Nat → Prop} {w : World} : SlR r T w (.slice none 0 0) [] := ⟨none, 0, rfl, Nat.le_refl _, by simp [maxLen], .inl rfl⟩
theorem rSl_open {α : Type} {r : Rp α} {T : Nat → Prop} {w : World} {cs : List Value} {l : List α} (h : (rSl r).rp T w cs l) : ∃ a c, cs = [.slice a l.length c] ∧ SlR r T w (.slice a l.length c) l := by
  obtain ⟨v, rfl, h⟩ := h
  obtain ⟨a, c, rfl⟩ := h.shape
  exact ⟨a, c, rfl, h⟩
theorem boxCells {w : World} {b : Nat} {cs ds : List Value} (h : Box w b cs) (o : Nat) (hs : (cs.drop o).take ds.length = ds) : cellsAt w b o ds := by
  intro j v hj
  rw [h.cell, ← List.getElem?_drop]
  rw [← hs, List.getElem?_take] at hj
  split at hj
  · exact hj
  · cases hj
theorem cellsAt.sub {w : World} {b off : Nat} {cs ds : List Value} (h : cellsAt w b off cs) (o : Nat) (hs : (cs.drop o).take ds.length = ds) : cellsAt w b (off + o) ds := by
  intro j v hj
  rw [Nat.add_assoc]
  refine h (o + j) v ?_
  rw [← List.getElem?_drop]
  rw [← hs, List.getElem?_take] at hj
  split at hj
  · exact hj
  · cases hj
theorem sealN {T : Nat → Prop} {v : Value} {b : Nat} (h : ¬ T b) (d : Dj v b) : ¬ sealT T v b := fun hh => hh.elim h (fun e => d b e rfl)
theorem OwS.sealO {α : Type} {r : Rp α} {e : TypeId} {B : Nat} {T : Nat → Prop} {w : World} {v v0 : Value} {l : List α} (h : OwS r e B T w v l) (d : Dj2 v0 v) : OwS r e B (sealT T v0) w v l := by
  obtain ⟨css, h1, h2, h3, h4⟩ := h
  exact ⟨css, h1, h2, fun i cs x hc hx => r.mono (mimm fun _ h => .inl h) (h3 i cs x hc hx), fun g hg => sealN (h4 g hg) (d g hg)⟩
theorem OwS.weak {α : Type} {r : Rp α} {e : TypeId} {B B' : Nat} {T : Nat → Prop} {w : World} {v : Value} {l : List α} (h : OwS r e B' T w v l) (hB : B ≤ B') : OwS r e B T w v l := by
  obtain ⟨css, h1, h2, h3, h4⟩ := h
  refine ⟨css, h1, ⟨h2.1, ?_⟩, h3, h4⟩
  rcases h2.2 with h2 | ⟨g, cap, cur, a, b, c⟩
  · exact .inl h2
  · exact .inr ⟨g, cap, cur, a, Nat.le_trans hB b, c⟩

/-- One more block that nobody writes any more. -/
def addT (T : Nat → Prop) (b : Nat) : Nat → Prop := fun k => T k ∨ k = b
theorem addI {B : Nat} {M T T1 : Nat → Prop} {w w1 : World} (h : Inn B M T w T1 w1) {b : Nat} {cs : List Value} (hx : Box w1 b cs) (hb : B ≤ b) : Inn B M T w (addT T1 b) w1 := h.shut1 b hb hx.lt
theorem addN {T : Nat → Prop} {b b' : Nat} (h : ¬ T b') (d : b' ≠ b) : ¬ addT T b b' := fun hh => hh.elim h d
theorem OwS.addO {α : Type} {r : Rp α} {e : TypeId} {B : Nat} {T : Nat → Prop} {w : World} {v : Value} {l : List α} {b : Nat} (h : OwS r e B T w v l) (d : Dj v b) : OwS r e B (addT T b) w v l := by
  obtain ⟨css, h1, h2, h3, h4⟩ := h
  exact ⟨css, h1, h2, fun i cs x hc hx => r.mono (mimm fun _ h => .inl h) (h3 i cs x hc hx), fun g hg => addN (h4 g hg) (d g hg)⟩
def AllR {α : Type} (r : Rp α) (T : Nat → Prop) (w : World) : List (List Value) → List α → Prop
  | [], [] => True
  | c :: cs, x :: xs => r.rp T w c x ∧ AllR r T w cs xs
  | _, _ => False
theorem AllR.len {α : Type} {r : Rp α} {T : Nat → Prop} {w : World} : ∀ {css : List (List Value)} {l : List α}, AllR r T w css l → css.length = l.length
  | [], [], _ => rfl
  | _ :: _, _ :: _, h => by simp [AllR.len h.2]
theorem AllR.get {α : Type} {r : Rp α} {T : Nat → Prop} {w : World} : ∀ {css : List (List Value)} {l : List α}, AllR r T w css l → ∀ (i : Nat) (cs : List Value) (x : α), css[i]? = some cs → l[i]? = some x → r.rp T w cs x
  | [], [], _, i, cs, x, h, _ => by simp at h
  | _ :: _, _ :: _, h, 0, cs, x, hc, hx => by simp at hc hx; subst hc; subst hx; exact h.1
  | _ :: _, _ :: _, h, i + 1, cs, x, hc, hx => by simp at hc hx; exact AllR.get h.2 i cs x hc hx
/-- A literal reads as a list. -/
theorem litR {α : Type} {r : Rp α} {T : Nat → Prop} {w : World} {b : Nat} {css : List (List Value)} {cs : List Value} {l : List α} {n : Nat} (hb : Box w b cs) (hf : css.flatten = cs) (ha : AllR r T w css l) (hn : l.length = n) (hm : Nat.ble n 1000000 = true) :
    SlR r (addT T b) w (.slice (some ⟨b, 0, none⟩) n n) l := by
  subst hn
  have hm' := Nat.le_of_ble_eq_true hm
  refine ⟨_, _, rfl, Nat.le_refl _, by simp only [maxLen]; omega, .inr ⟨b, 0, rfl, .inr rfl, fun i x hi => ?_⟩⟩
  have hil : i < l.length := by
    rcases Nat.lt_or_ge i l.length with h | h
    · exact h
    · rw [List.getElem?_eq_none h] at hi; cases hi
  have hlc : i < css.length := by rw [ha.len]; exact hil
  have hcs : css[i]? = some css[i] := List.getElem?_eq_getElem hlc
  refine ⟨css[i], r.mono (mimm fun _ h => .inl h) (ha.get i _ x hcs hi), fun j u hj => ?_⟩
  rw [hb.cell, Nat.zero_add, ← hf]
  exact flatten_get (OwS.sizes ha.len ha.get) hcs hj

def encS (s : List UInt8) : Value := .string ⟨s.toArray⟩
theorem bytes_beq (a b : List UInt8) : ((ByteArray.mk a.toArray == ByteArray.mk b.toArray) : Bool) = decide (a = b) := by
  show (a.toArray == b.toArray) = decide (a = b)
  rw [Bool.eq_iff_iff]
  simp
theorem key_str : KeyOk .string encS where
  same := fun a b => by simp only [encS, Instr.sameNow, bytes_beq]
  bits := fun a => by
    have : ∀ n, Instr.sameBits n (encS a) (encS a) = true := by intro n; cases n <;> simp [Instr.sameBits, encS, bytes_beq]
    exact this _
  chk := fun P w kt em a h => by
    have : ∀ n, (Instr.checkKey em (n + 1) kt (encS a)).run P w = .ok () w := by intro n; simp [Instr.checkKey, encS, run_underlying h]
    exact this 9999

section
variable {P : Program} {ops : Array Oper} {Q : Exit → Act → World → Prop} {rest : List Oper} {n : NF} {J : Nat → Value} {L : List (Nat × Value)} {w w' w0 : World}
  {d : Nat} {ty : TypeId} {pos : String} {aft : Array Edge} {op : Op} {v : Value} {x y c : Operand} {t t2 : TypeId} {T : Nat → Prop} {KK : Act → World → Prop} {Qa : Act → Prop} {C : World → Prop}
  {K V : Type} [DecidableEq K] {kd : TypeDesc} {enk : K → Value} {en : V → Value} {b : Nat} {m : List (K × V)}
theorem lk1d {kt et : TypeId} {z : Value} {kk : K} {u : V} (hx : ev n J L x = .map (some b)) (hy : ev n J L y = enk kk) (hm : MapR enk en w b m) (hk : KeyOk kd enk) (ht : P.underlying t = some (.map kt et)) (hu : P.underlying kt = some kd) (hz : ∀ w, (zeroValue et).run P w = .ok z w) (hz' : z = en u)
    (k' : wpList P ops Q rest (env n J ((d, en ((mGet m kk).getD u)) :: L)) w) :
    wpList P ops Q (⟨some d, .lookup t x y false, ty, pos, aft, none⟩ :: rest) (env n J L) w := by
  refine lk1 hx hy hm hk ht hu hz ?_
  have : ((mGet m kk).map en).getD z = en ((mGet m kk).getD u) := by subst hz'; cases mGet m kk <;> rfl
  rw [this]
  exact k'
theorem lnsL {s : List UInt8} (hx : ev n J L x = .string ⟨s.toArray⟩) (ht : P.underlying t = some .string) (k' : wpList P ops Q rest (env n J ((d, .int .i64 (s.length : Int)) :: L)) w) :
    wpList P ops Q (⟨some d, .call ⟨.builtin .len, #[x], #[t]⟩, ty, pos, aft, none⟩ :: rest) (env n J L) w := lns hx ht (by simpa [ByteArray.size] using k')
theorem qlnsL {s : List UInt8} (hx : ev n J L x = .string ⟨s.toArray⟩) (ht : P.underlying t = some .string) (k' : wpQuiet P ops C Qa rest (env n J ((d, .int .i64 (s.length : Int)) :: L))) :
    wpQuiet P ops C Qa (⟨some d, .call ⟨.builtin .len, #[x], #[t]⟩, ty, pos, aft, none⟩ :: rest) (env n J L) := qlns hx ht (by simpa [ByteArray.size] using k')
/-- A new variable that holds a value. -/
theorem bxv {v : Value} {cs : List Value} (hx : ev n J L x = v) (hc : v.cells.toList = cs) (hb : Bd T w)
    (k : ∀ w' b, Inn w.heap.size noB T w T w' → Box w' b cs → w.heap.size ≤ b → ¬ T b → KK (env n J ((d, .pointer (some ⟨b, 0, none⟩)) :: L)) w') :
    Oper.wp P ⟨some d, .box t x, ty, pos, aft, none⟩ (env n J L) w KK Q := by
  subst hc
  refine w_val (w' := w.alloc (.cells v.cells t)) (v := .pointer (some ⟨w.heap.size, 0, none⟩)) ?_ (k _ _ (inn_alloc hb _) ⟨t, ?_⟩ (Nat.le_refl _) (nT_new hb))
  · simp only [execOp, Instr.box, newVar, hx, Sem.run_bind]; rfl
  · rw [show (w.alloc (.cells v.cells t)).heap[w.heap.size]? = some (.cells v.cells t) from heap_alloc_new w _]
theorem ret0 {m : Nat} {fn : Func} {R : Ending → World → Prop} (hr : fn.results = #[]) (hR : R (.returned (.tuple #[])) w) : bodyPost P fn R .ret (env (nf m) J L) w :=
  bodyPost_ret (results_none hr _ _ _) rfl hR
end
end Go.Proofs.YtpdahlpjbckoiaaGreatDoor
