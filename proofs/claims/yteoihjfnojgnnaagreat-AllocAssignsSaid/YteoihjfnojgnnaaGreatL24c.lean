/- Plain laws on the models of liveness: the sets that are found are those of the paths. No program is in sight here. -/
import Derived.Test.YteoihjfnojgnnaaGreatL24b
set_option linter.unusedVariables false
namespace Go.Proofs.YteoihjfnojgnnaaGreat

theorem jn_to {A B : Type} {f : (B → Option A) → Option A} {k : B → Option A} {b : B} (h : f k = k b) : jn f k = k b := h
section
variable {T R A : Type} {body : T → Option (Lp T R)} {f : Lp T R → Option A} {init : T} {Q : A → Prop}
theorem Tt.whil (I : T → Prop) (μ : T → Nat) (hI : I init) (hμ : μ init < NN)
    (hs : ∀ t, I t → Tt (body t) (fun z => (∃ t', z = .go t' ∧ I t' ∧ μ t' < μ t) ∨ (∃ t', z = .brk t' ∧ Tt (f (.brk t')) Q) ∨ (∃ r, z = .ret r ∧ Tt (f (.ret r)) Q))) : Tt ((loopM body NN init).bind f) Q := by
  obtain ⟨o, ho, hp⟩ := loop_some (body := body) (n := NN) (s := init) I μ (fun o => Tt (f o) Q) hI hμ (by
    intro t ht
    obtain ⟨z, hz, h⟩ := hs t ht
    refine ⟨z, hz, ?_⟩
    rcases h with ⟨t', rfl, h1, h2⟩ | ⟨t', rfl, h⟩ | ⟨r, rfl, h⟩
    · exact ⟨h1, h2⟩
    · exact h
    · exact h)
  rw [ho]
  exact hp
theorem Tt.cnt (n : Nat) (hn : n < 18446744073709551616) (st : Nat → T → Prop) (h0 : st 0 init) (hs : ∀ k, k < n → ∀ t, st k t → Tt (body t) (fun z => ∃ t', z = .go t' ∧ st (k + 1) t')) (he : ∀ t, st n t → body t = some (.brk t) ∧ Tt (f (.brk t)) Q) : Tt ((loopM body NN init).bind f) Q := by
  have key : ∀ (d k m : Nat) (t : T), k + d = n → d < m → st k t → Tt ((loopM body m t).bind f) Q := by
    intro d
    induction d with
    | zero =>
      intro k m t hk hm ht
      cases m with
      | zero => omega
      | succ m =>
        have : k = n := by omega
        subst this
        obtain ⟨h1, h2⟩ := he t ht
        unfold loopM
        rw [h1]
        exact h2
    | succ d ih =>
      intro k m t hk hm ht
      cases m with
      | zero => omega
      | succ m =>
        obtain ⟨z, hz, t', rfl, ht'⟩ := hs k (by omega) t ht
        unfold loopM
        rw [hz]
        exact ih (k + 1) m t' (by omega) (by omega) ht'
  exact key n 0 NN init (by omega) (NN_big hn) h0
end
theorem Tt.eq {A : Type} {x : Option A} {a : A} (h : Tt x (fun z => z = a)) : x = some a := by
  obtain ⟨z, h1, rfl⟩ := h
  exact h1
theorem Tt.of {A : Type} {x : Option A} {a : A} (h : x = some a) : Tt x (fun z => z = a) := ⟨a, h, rfl⟩

/-! What instructions read and set. -/
def uA (a : Bool) (r : Int) : List Int := bif a then (bif r != (-1) then [r] else []) else []
theorem uA_len (a : Bool) (r : Int) : (uA a r).length ≤ 1 := by
  unfold uA
  cases a
  · simp
  · cases h : (r != (-1)) <;> simp [h]
theorem args_loop {A : Type} {l : List Int} {x2 : List Int} {K : List Int × Int → Option A} {X : Option A} (hl : l.length ≤ 12) (hx : x2.length ≤ 2) (hX : K (x2 ++ l.filter (fun r => r != (-1)), (l.length : Int)) = X) {body : List Int × Int → Option (Lp (List Int × Int) Unit)}
    (hs : ∀ (k : Nat) (h : k < l.length) (y : List Int), body (y, (k : Int)) = (jn (fun kk4 => (idx l (k : Int)).bind fun u1 => bif u1 != (-1) then ((room (List.length y + List.length ([u1] : List Int))).bind fun _ => kk4 (y ++ ([u1] : List Int))) else (kk4 y)) (fun (x6 : List Int) => some (Lp.go (x6, IntKind.wrap .i64 ((k : Int) + 1))))))
    (he : ∀ y, body (y, (l.length : Int)) = some (.brk (y, (l.length : Int)))) {g : Unit → Option A} : ((loopM body NN (x2, 0)).bind fun o => o.thn K g) = X := by
  refine run_bind (fun k => (x2 ++ (l.take k).filter (fun r => r != (-1)), (k : Int))) l.length (.brk (x2 ++ l.filter (fun r => r != (-1)), (l.length : Int))) (by simp) (by omega) (fun k hk => ?_) (by rw [List.take_length]; exact he _) trivial hX
  rw [hs k hk, idx_get hk, List.take_succ_eq_append_getElem hk, List.filter_append, w64 (by omega)]
  have hlen : ((l.take k).filter (fun r => r != (-1))).length ≤ 12 := Nat.le_trans (List.length_filter_le _ _) (by simp; omega)
  cases h : (l[k] != (-1))
  · simp [jn, h]
  · simp only [jn, Option.bind_some, h, cond_true]
    rw [room_ok (by simp; omega)]
    simp [h]
theorem usesL_eq (i : Ins) : usesL i = uA (rdA i.Op) i.A ++ uA (rdB i.Op) i.B ++ (bif i.Op == 9 then i.Args.filter (fun r => r != (-1)) else []) := rfl
theorem Uses_eq (i : Ins) (hA : i.Args.length ≤ 12) : ir_Uses i = some (usesL i) := by
  unfold ir_Uses
  rw [reads_eq, usesL_eq, Option.bind_some]
  dsimp only
  refine (jn_to (b := uA (rdA i.Op) i.A) ?_).trans ?_
  · unfold uA
    cases rdA i.Op
    · rfl
    · cases h : (i.A != (-1)) <;> rfl
  refine (jn_to (b := uA (rdA i.Op) i.A ++ uA (rdB i.Op) i.B) ?_).trans ?_
  · have h1 := uA_len (rdA i.Op) i.A
    generalize uA (rdA i.Op) i.A = x1 at h1
    unfold uA
    cases rdB i.Op
    · simp
    · cases h : (i.B != (-1))
      · simp
      · simp only [cond_true]
        rw [room_ok (by simp; omega)]
        rfl
  have h3 : (uA (rdA i.Op) i.A ++ uA (rdB i.Op) i.B).length ≤ 2 := by
    have h1 := uA_len (rdA i.Op) i.A
    have h2 := uA_len (rdB i.Op) i.B
    rw [List.length_append]
    omega
  generalize uA (rdA i.Op) i.A ++ uA (rdB i.Op) i.B = x2 at h3
  refine jn_to (b := x2 ++ (bif i.Op == 9 then i.Args.filter (fun r => r != (-1)) else [])) ?_
  cases h : (i.Op == 9)
  · simp
  · simp only [cond_true]
    exact args_loop hA h3 rfl (fun k hk y => c1 (dlt hk)) (fun y => c0 (dge _))

theorem usesL_len (i : Ins) (hA : i.Args.length ≤ 12) : (usesL i).length ≤ 14 := by
  rw [usesL_eq]
  have h1 := uA_len (rdA i.Op) i.A
  have h2 := uA_len (rdB i.Op) i.B
  have h3 : (bif i.Op == 9 then i.Args.filter (fun r => r != (-1)) else []).length ≤ 12 := by
    cases i.Op == 9
    · simp
    · exact Nat.le_trans (List.length_filter_le _ _) hA
  simp only [List.length_append]
  omega
theorem outsL_len (b : GBlock) : (outsL b).length ≤ 2 := by
  unfold outsL
  cases b.End == 1
  · cases b.End == 2
    · simp
    · cases b.To == b.Else <;> simp
  · simp
end Go.Proofs.YteoihjfnojgnnaaGreat
