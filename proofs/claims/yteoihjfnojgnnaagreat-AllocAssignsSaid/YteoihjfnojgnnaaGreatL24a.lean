/- Plain laws on the models of modules that are right: bounds. No program is in sight here. -/
import Derived.Test.YteoihjfnojgnnaaGreatPure
import Derived.Test.YteoihjfnojgnnaaGreatLoop
import Derived.Test.YteoihjfnojgnnaaGreatM
set_option linter.unusedVariables false
namespace Go.Proofs.YteoihjfnojgnnaaGreat

/-- There is a result, and it is such. -/
def Tt {A : Type} (x : Option A) (Q : A → Prop) : Prop := ∃ a, x = some a ∧ Q a
section
variable {A B : Type} {Q : A → Prop} {P : B → Prop}
theorem Tt.bif {c : Bool} {x y : Option A} (h1 : c = true → Tt x Q) (h2 : c = false → Tt y Q) : Tt (bif c then x else y) Q := by
  cases c with
  | true => exact h1 rfl
  | false => exact h2 rfl
theorem Tt.som {a : A} (h : Q a) : Tt (some a) Q := ⟨a, rfl, h⟩
theorem Tt.bind {x : Option B} {f : B → Option A} (h : Tt x P) (hf : ∀ a, P a → Tt (f a) Q) : Tt (x.bind f) Q := by
  obtain ⟨a, rfl, ha⟩ := h
  exact hf a ha
theorem Tt.bnd {x : Option B} {b : B} {f : B → Option A} (h : x = some b) (hf : Tt (f b) Q) : Tt (x.bind f) Q := by
  subst h
  exact hf
theorem Tt.idx {l : List A} {i : Int} (h0 : 0 ≤ i) (h1 : i < l.length) : Tt (idx l i) (fun a => l[i.toNat]? = some a) := by
  have h : i.toNat < l.length := by omega
  exact ⟨l[i.toNat], by rw [idx_nat h0]; exact List.getElem?_eq_getElem h, List.getElem?_eq_getElem h⟩
theorem Tt.mono {x : Option A} {Q' : A → Prop} (h : Tt x Q) (hq : ∀ a, Q a → Q' a) : Tt x Q' := let ⟨a, h1, h2⟩ := h; ⟨a, h1, hq a h2⟩
theorem Tt.loop {R : Type} {body : Int → Option (Lp Int R)} {f : Lp Int R → Option A} {n : Nat} (hn : n ≤ 9223372036854775807) (P : Nat → Prop)
    (hs : ∀ k : Nat, k < n → Tt (body k) (fun z => (z = .go (IntKind.wrap .i64 ((k : Int) + 1)) ∧ P k) ∨ (∃ r, z = .ret r ∧ Tt (f (.ret r)) Q)))
    (he : body n = some (.brk n)) (hK : (∀ k, k < n → P k) → Tt (f (.brk n)) Q) : Tt ((loopM body NN 0).bind f) Q := by
  obtain ⟨o, ho, hp⟩ := loop_some (body := body) (n := NN) (s := 0) (fun x => ∃ k : Nat, k ≤ n ∧ x = (k : Int) ∧ ∀ j, j < k → P j) (fun x => n - x.toNat) (fun o => (o = .brk n ∧ ∀ k, k < n → P k) ∨ ∃ r, o = .ret r ∧ Tt (f (.ret r)) Q)
    ⟨0, by omega, rfl, fun _ h => by omega⟩ (NN_big (by omega)) (by
      rintro x ⟨k, hk, rfl, hp⟩
      by_cases h : k < n
      · obtain ⟨z, hz, h1⟩ := hs k h
        refine ⟨z, hz, ?_⟩
        rcases h1 with ⟨rfl, h1⟩ | ⟨r, rfl, h1⟩
        · refine ⟨⟨k + 1, by omega, by rw [w64 (by omega)]; omega, fun j hj => ?_⟩, by rw [w64 (by omega)]; omega⟩
          rcases Nat.lt_or_ge j k with h' | h'
          · exact hp j h'
          · rw [show j = k by omega]; exact h1
        · exact .inr ⟨r, rfl, h1⟩
      · have hkn : k = n := by omega
        subst hkn
        exact ⟨_, he, .inl ⟨rfl, hp⟩⟩)
  rw [ho]
  rcases hp with ⟨rfl, h⟩ | ⟨r, rfl, h⟩
  · exact hK h
  · exact h
end

/-- A state after k steps. -/
def itr {S : Type} (f : Nat → S → S) (s0 : S) : Nat → S
  | 0 => s0
  | k + 1 => f k (itr f s0 k)
theorem itr_bind {S T A R : Type} {body : T → Option (Lp T R)} {K : Lp T R → Option A} {X : Option A} {init : T} (n : Nat) (f : Nat → S → S) (enc : S → Int → T) (s0 : S) (I : Nat → S → Prop) (h0 : enc s0 0 = init) (hI : I 0 s0) (hn : n < 4611686018427387904)
    (hs : ∀ k, k < n → ∀ s, I k s → body (enc s k) = some (.go (enc (f k s) (IntKind.wrap .i64 ((k : Int) + 1)))) ∧ I (k + 1) (f k s)) (he : ∀ s, I n s → body (enc s n) = some (.brk (enc s n))) (hX : I n (itr f s0 n) → K (.brk (enc (itr f s0 n) n)) = X) : (loopM body NN init).bind K = X := by
  have hinv : ∀ k, k ≤ n → I k (itr f s0 k) := by
    intro k
    induction k with
    | zero => intro _; exact hI
    | succ k ih => intro hk; exact (hs k (by omega) _ (ih (by omega))).2
  refine run_bind (fun k => enc (itr f s0 k) k) n (.brk (enc (itr f s0 n) n)) h0 (by omega) (fun k hk => ?_) (he _ (hinv n (Nat.le_refl _))) trivial (hX (hinv n (Nat.le_refl _)))
  rw [(hs k hk _ (hinv k (by omega))).1, w64 (by omega)]
  rfl

theorem mem_at {α : Type} {l : List α} {x : α} (h : x ∈ l) : ∃ k, k < l.length ∧ l[k]? = some x := by
  obtain ⟨k, hk, rfl⟩ := List.getElem_of_mem h
  exact ⟨k, hk, List.getElem?_eq_getElem hk⟩

/-! A module of few things. -/
def FewB (b : GBlock) : Prop := b.Ins.length ≤ 60 ∧ ∀ i ∈ b.Ins, i.Args.length ≤ 12
def FewQ (p : Proc) : Prop := p.Blocks.length ≤ 40 ∧ p.Objects.length ≤ 20 ∧ ∀ b ∈ p.Blocks, FewB b
structure FewP (m : GModule) : Prop where
  procs : m.Procs.length ≤ 6
  glob : m.Globals.length ≤ 20
  data : m.Data.length ≤ 20
  p : ∀ p ∈ m.Procs, FewQ p
/-- What is known of a module's lists. -/
def WfM (m : GModule) : Prop := ∀ p ∈ m.Procs, ∀ b ∈ p.Blocks, ∀ i ∈ b.Ins, i.Args.length ≤ 9223372036854775807

theorem fewIns_t (i : Ins) (h : i.Args.length ≤ 9223372036854775807) : Tt (law13_ins i) (fun b => b = true → i.Args.length ≤ 12) := by
  unfold law13_ins
  refine Tt.loop (n := 8) (by omega) (fun _ => True) (fun k hk => ?_) (c0 (by simp)) (fun _ => ?_)
  · refine Tt.bif (fun _ => ?_) (fun h => by simp at h; omega)
    refine Tt.bind (Tt.idx (by omega) (by simp; omega)) fun a _ => ?_
    refine Tt.bif (fun _ => Tt.som (.inr ⟨_, rfl, Tt.som (by nofun)⟩)) (fun _ => ?_)
    refine Tt.bind (Tt.idx (by omega) (by simp; omega)) fun a _ => ?_
    exact Tt.bif (fun _ => Tt.som (.inr ⟨_, rfl, Tt.som (by nofun)⟩)) (fun _ => Tt.som (.inl ⟨rfl, trivial⟩))
  · show Tt ((loopM _ NN 0).bind _) _
    refine Tt.loop (n := i.Args.length) h (fun _ => True) (fun k hk => ?_) (c0 (by simp)) (fun _ => ?_)
    · refine Tt.bif (fun _ => ?_) (fun h => by simp at h; omega)
      refine Tt.bind (Tt.idx (by omega) (by omega)) fun a _ => ?_
      refine Tt.bif (fun _ => Tt.som (.inr ⟨_, rfl, Tt.som (by nofun)⟩)) (fun _ => ?_)
      refine Tt.bind (Tt.idx (by omega) (by omega)) fun a _ => ?_
      exact Tt.bif (fun _ => Tt.som (.inr ⟨_, rfl, Tt.som (by nofun)⟩)) (fun _ => Tt.som (.inl ⟨rfl, trivial⟩))
    · exact Tt.som fun h => by have := of_decide_eq_true h; omega

theorem few_t (m : GModule) (hw : WfM m) : Tt (law13_Few m) (fun b => b = true → FewP m) := by
  unfold law13_Few
  refine Tt.bif (fun _ => Tt.som (by nofun)) fun h1 => ?_
  refine Tt.bif (fun _ => Tt.som (by nofun)) fun h2 => ?_
  refine Tt.bif (fun _ => Tt.som (by nofun)) fun h3 => ?_
  have h1 := of_decide_eq_false h1
  have h2 := of_decide_eq_false h2
  have h3 := of_decide_eq_false h3
  refine Tt.loop (n := m.Procs.length) (by omega) (fun k => ∀ p, m.Procs[k]? = some p → FewQ p) (fun k hk => ?_) (c0 (by simp)) (fun hP => ?_)
  · refine Tt.bif (fun _ => ?_) (fun h => by simp at h; omega)
    have hp := idx_get hk
    have hpm : m.Procs[k] ∈ m.Procs := List.getElem_mem hk
    generalize m.Procs[k] = p at hp hpm
    rw [hp]
    refine Tt.bnd rfl ?_
    refine Tt.bif (fun _ => Tt.som (.inr ⟨_, rfl, Tt.som (by nofun)⟩)) fun h4 => ?_
    refine Tt.bnd rfl ?_
    refine Tt.bif (fun _ => Tt.som (.inr ⟨_, rfl, Tt.som (by nofun)⟩)) fun h5 => ?_
    have h4 := of_decide_eq_false h4
    have h5 := of_decide_eq_false h5
    refine Tt.loop (n := p.Blocks.length) (by omega) (fun j => ∀ b, p.Blocks[j]? = some b → FewB b) (fun j hj => ?_) ?_ (fun hB => ?_)
    · refine Tt.bnd rfl ?_
      refine Tt.bif (fun _ => ?_) (fun h => by simp at h; omega)
      have hb := idx_get hj
      have hbm : p.Blocks[j] ∈ p.Blocks := List.getElem_mem hj
      generalize p.Blocks[j] = b at hb hbm
      refine Tt.bnd rfl ?_
      rw [hb]
      refine Tt.bnd rfl ?_
      refine Tt.bif (fun _ => Tt.som (.inr ⟨_, rfl, Tt.som (.inr ⟨_, rfl, Tt.som (by nofun)⟩)⟩)) fun h6 => ?_
      have h6 := of_decide_eq_false h6
      refine Tt.loop (n := b.Ins.length) (by omega) (fun l => ∀ i, b.Ins[l]? = some i → i.Args.length ≤ 12) (fun l hl => ?_) ?_ (fun hI => ?_)
      · refine Tt.bnd rfl ?_
        refine Tt.bnd hb ?_
        refine Tt.bif (fun _ => ?_) (fun h => by simp at h; omega)
        refine Tt.bnd rfl ?_
        refine Tt.bnd hb ?_
        refine Tt.bnd (idx_get hl) ?_
        refine Tt.bind (fewIns_t _ (hw p hpm b hbm _ (List.getElem_mem hl))) fun y hy => ?_
        refine Tt.bif (fun _ => Tt.som (.inr ⟨_, rfl, Tt.som (.inr ⟨_, rfl, Tt.som (.inr ⟨_, rfl, Tt.som (by nofun)⟩)⟩)⟩)) fun h7 => ?_
        refine Tt.som (.inl ⟨rfl, fun i hi => ?_⟩)
        rw [List.getElem?_eq_getElem hl] at hi
        cases hi
        exact hy (by simpa using h7)
      · simp [hb]
      · refine Tt.som (.inl ⟨rfl, fun b' hb' => ?_⟩)
        rw [idx_nat (by omega)] at hb
        rw [show (j : Int).toNat = j by omega, hb'] at hb
        cases hb
        refine ⟨by omega, fun i hi => ?_⟩
        obtain ⟨l, hl, he⟩ := mem_at hi
        exact hI l hl i he
    · simp
    · refine Tt.som (.inl ⟨rfl, fun p' hp' => ?_⟩)
      rw [idx_nat (by omega)] at hp
      rw [show (k : Int).toNat = k by omega, hp'] at hp
      cases hp
      refine ⟨by omega, by omega, fun b hb => ?_⟩
      obtain ⟨l, hl, he⟩ := mem_at hb
      exact hB l hl b he
  · refine Tt.som fun _ => ⟨by omega, by omega, by omega, fun p hp => ?_⟩
    obtain ⟨l, hl, he⟩ := mem_at hp
    exact hP l hl p he
end Go.Proofs.YteoihjfnojgnnaaGreat
