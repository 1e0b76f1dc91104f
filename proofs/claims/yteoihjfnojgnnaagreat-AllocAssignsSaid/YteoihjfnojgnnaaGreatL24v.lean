/- Plain laws on the models of a walk over ranges: each step, and all of it. No program is in sight here. -/
import Derived.Test.YteoihjfnojgnnaaGreatL24h
import Derived.Test.YteoihjfnojgnnaaGreatL24u
set_option linter.unusedVariables false
namespace Go.Proofs.YteoihjfnojgnnaaGreat

/-! What is no range is left out. -/
theorem idxfn2_t (l : List AllocReach) (hl : l.length ≤ 1000) : Tt (slices_IndexFunc_2 l) (fun z => (z = -1 ∧ ∀ k, k < l.length → (gR l k).is = true) ∨ ∃ i : Nat, z = (i : Int) ∧ i < l.length ∧ (gR l i).is = false ∧ ∀ k, k < i → (gR l k).is = true) := by
  unfold slices_IndexFunc_2
  refine Tt.whil (fun t => ∃ k : Nat, t = (k : Int) ∧ k ≤ l.length ∧ ∀ j, j < k → (gR l j).is = true) (fun t => l.length - t.toNat) ⟨0, rfl, by omega, fun j h => by omega⟩ (NN_big (by omega)) ?_
  rintro _ ⟨k, rfl, h1, h2⟩
  refine Tt.bif (fun hc => ?_) (fun hc => ?_)
  · have hc := of_decide_eq_true hc
    refine Tt.bnd (idx_gt (by omega)) (Tt.bnd (show alloc_Assign_1 _ = some _ from rfl) ?_)
    refine Tt.bif (fun hq => ?_) (fun hq => ?_)
    · exact Tt.som (.inr (.inr ⟨_, rfl, Tt.som (.inr ⟨k, rfl, by omega, by simpa using hq, h2⟩)⟩))
    · refine Tt.som (.inl ⟨_, rfl, ⟨k + 1, wk1 (by omega), by omega, fun j hj => ?_⟩, by rw [wk1 (by omega)]; omega⟩)
      by_cases hjk : j = k
      · rw [hjk]; simpa using hq
      · exact h2 j (by omega)
  · have hc := of_decide_eq_false hc
    exact Tt.som (.inr (.inl ⟨_, rfl, Tt.som (.inl ⟨rfl, fun k' h => h2 k' (by omega)⟩)⟩))
theorem filter_upto {l : List AllocReach} {i : Nat} (hi : i ≤ l.length) (h : ∀ k, k < i → (gR l k).is = true) : (l.take i).filter (fun x => x.is) = l.take i := by
  apply List.filter_eq_self.2
  intro x hx
  obtain ⟨k, hk, he⟩ := List.getElem_of_mem hx
  have hk' : k < i := by simp at hk; omega
  have := h k hk'
  rw [gt_at (by omega)] at this
  rw [← he, List.getElem_take]
  exact this
theorem delete_t (l : List AllocReach) (hl : l.length ≤ 1000) : Tt (slices_DeleteFunc_2 l) (fun y => y = l.filter (fun x => x.is)) := by
  unfold slices_DeleteFunc_2
  refine Tt.bind (idxfn2_t l hl) fun z hz => ?_
  rcases hz with ⟨rfl, h⟩ | ⟨i, rfl, hi, hf, h⟩
  · refine Tt.bif (fun _ => Tt.som ?_) (fun h => by simp at h)
    have := filter_upto (Nat.le_refl _) h
    rw [List.take_length] at this
    exact this.symm
  · refine Tt.bif (fun h => by simp at h) (fun _ => ?_)
    rw [wk1 (by omega)]
    refine Tt.cnt (l.length - (i + 1)) (by omega) (fun k t => ∃ w : Nat, t.2.1 = (w : Int) ∧ t.2.2 = ((i + 1 + k : Nat) : Int) ∧ t.1.length = l.length ∧ w ≤ i + k ∧ t.1.take w = (l.take (i + 1 + k)).filter (fun x => x.is) ∧ ∀ j, i + 1 + k ≤ j → gR t.1 j = gR l j) ?_ ?_ ?_
    · refine ⟨i, rfl, rfl, rfl, by omega, ?_, fun _ _ => rfl⟩
      rw [Nat.add_zero, List.take_succ_eq_append_getElem hi, List.filter_append, filter_upto (by omega) h]
      have : l[i].is = false := by rw [gt_at hi] at hf; exact hf
      simp [this]
    · rintro k hk ⟨x, w', j'⟩ ⟨w, h1, h2, h3, h4, h5, h6⟩
      dsimp only at h1 h2 h3 h5 h6
      subst h1 h2
      have hj : i + 1 + k < l.length := by omega
      have hg : gR x (i + 1 + k) = gR l (i + 1 + k) := h6 _ (Nat.le_refl _)
      dsimp only
      refine Tt.bif (fun _ => ?_) (fun h => by have := of_decide_eq_false h; omega)
      have hfl : (l.take (i + 1 + (k + 1))).filter (fun x => x.is) = (l.take (i + 1 + k)).filter (fun x => x.is) ++ (bif (gR l (i + 1 + k)).is then [gR l (i + 1 + k)] else []) := by
        rw [show i + 1 + (k + 1) = (i + 1 + k) + 1 by omega, List.take_succ_eq_append_getElem hj, List.filter_append, gt_at hj]
        congr 1
      refine Tt.jn2 (fun (x5 : List AllocReach) (w5 : Int) => ∃ w : Nat, w5 = (w : Int) ∧ x5.length = l.length ∧ w ≤ i + (k + 1) ∧ x5.take w = (l.take (i + 1 + (k + 1))).filter (fun x => x.is) ∧ ∀ j, i + 1 + (k + 1) ≤ j → gR x5 j = gR l j) (fun kk hkk => ?_) (fun x5 w5 ⟨w2, e, h7, h8, h9, h10⟩ => ?_)
      · refine Tt.bnd (idx_gt (by omega)) (Tt.bnd (show alloc_Assign_1 _ = some _ from rfl) ?_)
        rw [hg]
        refine Tt.bif (fun hq => ?_) (fun hq => ?_)
        · have hq : (gR l (i + 1 + k)).is = true := by simpa using hq
          have hw : w < x.length := by omega
          refine Tt.bnd (idx_gt hw) (Tt.bnd (idx_gt hw) (hkk _ _ ⟨w + 1, wk1 (by omega), by simp [h3], by omega, ?_, fun j hj' => ?_⟩))
          · rw [hfl, hq, cond_true, ← h5, show (w : Int).toNat = w by omega, List.take_succ_eq_append_getElem (by simpa using hw), List.getElem_set_self, List.take_set_of_le (Nat.le_refl _)]
          · rw [show (w : Int).toNat = w by omega, gt_set hw, if_neg (by omega)]
            exact h6 j (by omega)
        · have hq : (gR l (i + 1 + k)).is = false := by simpa using hq
          refine hkk _ _ ⟨w, rfl, h3, by omega, ?_, fun j hj' => h6 j (by omega)⟩
          rw [hfl, hq, cond_false, List.append_nil]
          exact h5
      · exact Tt.som ⟨_, rfl, w2, e, by dsimp only; rw [wk1 (by omega)]; omega, h7, by omega, h9, h10⟩
    · rintro ⟨x, w', j'⟩ ⟨w, h1, h2, h3, h4, h5, h6⟩
      dsimp only at h1 h2 h3 h5 h6
      subst h1 h2
      refine ⟨c0 (df (by omega)), ?_⟩
      rw [show i + 1 + (l.length - (i + 1)) = l.length by omega, List.take_length] at h5
      dsimp only [Lp.thn]
      have hw : w ≤ x.length := by omega
      have s1 : sub x (w : Int) (x.length : Int) = some (x.drop w) := by
        unfold sub
        rw [if_pos (by omega)]
        simp
      have s2 : sub (List.take (Int.toNat (w : Int)) x ++ List.replicate (x.length - Int.toNat (w : Int)) (⟨0, 0, 0, false⟩ : AllocReach)) 0 (w : Int) = some (x.take w) := by
        unfold sub
        rw [if_pos ⟨by omega, by omega, by simp; omega⟩]
        congr 1
        simp
        rw [List.take_append_of_le_length (by simp; omega), List.take_take, Nat.min_self]
      refine Tt.bnd s1 (Tt.bnd s2 (Tt.som h5))

/-! A step. -/
def hd (h : List AllocHolder) (k : Nat) : AllocHolder := h.getD k ⟨⟨0, 0, 0, false⟩, 0, false⟩
theorem hd_at {h : List AllocHolder} {k : Nat} (hk : k < h.length) : idx h (k : Int) = some (hd h k) := by
  rw [idx_get hk]
  unfold hd
  rw [List.getD_eq_getElem?_getD, List.getElem?_eq_getElem hk]
  rfl
theorem hd_set {h : List AllocHolder} {i k : Nat} {x : AllocHolder} (hi : i < h.length) : hd (h.set i x) k = if k = i then x else hd h k := by
  unfold hd
  rw [List.getD_eq_getElem?_getD, List.getD_eq_getElem?_getD]
  by_cases hk : k = i
  · subst hk
    rw [List.getElem?_set_self hi, if_pos rfl]
    rfl
  · rw [List.getElem?_set_ne (fun e => hk e.symm), if_neg hk]
def sR (l : List Seat) (k : Nat) : Seat := l.getD k ⟨0, 0⟩
theorem st_at {h : List Seat} {k : Nat} (hk : k < h.length) : idx h (k : Int) = some (sR h k) := by
  rw [idx_get hk]
  unfold sR
  rw [List.getD_eq_getElem?_getD, List.getElem?_eq_getElem hk]
  rfl
theorem st_set {h : List Seat} {i k : Nat} {x : Seat} (hi : i < h.length) : sR (h.set i x) k = if k = i then x else sR h k := by
  unfold sR
  rw [List.getD_eq_getElem?_getD, List.getD_eq_getElem?_getD]
  by_cases hk : k = i
  · subst hk
    rw [List.getElem?_set_self hi, if_pos rfl]
    rfl
  · rw [List.getElem?_set_ne (fun e => hk e.symm), if_neg hk]
/-- A holder as it is when a range begins. -/
def rel (x : AllocHolder) (fr : Int) : AllocHolder := bif x.held && decide (x.reach.to < fr) then { x with held := false } else x
def nmL : List Int := [8, 9, 18, 19, 20, 21, 22, 23, 24, 25, 26, 27]
def takeF (d : AllocDesk) (k : Nat) (x : AllocReach) : AllocDesk := { d with hold := List.set d.hold k ⟨x, d.came, true⟩, seats := List.set d.seats x.r.toNat ⟨nmL.getD k 0, -1⟩ }
def slotF (d : AllocDesk) (r : Int) : AllocDesk := { d with seats := List.set d.seats r.toNat ⟨0, d.slots⟩, slots := IntKind.wrap .i64 (d.slots + 1) }
theorem take_eq (d : AllocDesk) (k : Nat) (x : AllocReach) (hh : d.hold.length = 12) (hk : k < 12) (hr : InR d.seats.length x.r) : alloc_desk_take d k x = some (takeF d k x) := by
  obtain ⟨r0, r1⟩ := hr
  obtain ⟨r, hr⟩ : ∃ r : Nat, x.r = (r : Int) := ⟨x.r.toNat, by omega⟩
  unfold alloc_desk_take takeF
  rw [show lenOk d.hold 12 = some () by unfold lenOk; rw [if_pos hh], Option.bind_some, hd_at (by omega), Option.bind_some, Option.bind_some, show alloc_names = some nmL from rfl, Option.bind_some, hr, st_at (by omega)]
  have hn : idx ([List.getD nmL 0 0, List.getD nmL 1 0, List.getD nmL 2 0, List.getD nmL 3 0, List.getD nmL 4 0, List.getD nmL 5 0, List.getD nmL 6 0, List.getD nmL 7 0, List.getD nmL 8 0, List.getD nmL 9 0, List.getD nmL 10 0, List.getD nmL 11 0] : List Int) (k : Int) = some (nmL.getD k 0) := by
    rw [show ([List.getD nmL 0 0, List.getD nmL 1 0, List.getD nmL 2 0, List.getD nmL 3 0, List.getD nmL 4 0, List.getD nmL 5 0, List.getD nmL 6 0, List.getD nmL 7 0, List.getD nmL 8 0, List.getD nmL 9 0, List.getD nmL 10 0, List.getD nmL 11 0] : List Int) = nmL from rfl, idx_get (by exact hk), List.getD_eq_getElem?_getD, List.getElem?_eq_getElem (by exact hk)]
    rfl
  rw [hn]
  rfl
theorem slot_eq (d : AllocDesk) (r : Int) (hh : d.hold.length = 12) (hr : InR d.seats.length r) : alloc_desk_slot d r = some (slotF d r) := by
  obtain ⟨r0, r1⟩ := hr
  obtain ⟨r, rfl⟩ : ∃ r' : Nat, r = (r' : Int) := ⟨r.toNat, by omega⟩
  unfold alloc_desk_slot slotF
  rw [show lenOk d.hold 12 = some () by unfold lenOk; rw [if_pos hh], Option.bind_some, st_at (by omega)]
  rfl
theorem sub_hold {h : List AllocHolder} {n : Nat} (hn : n ≤ h.length) : sub h 0 (n : Int) = some (h.take n) := by
  unfold sub
  rw [if_pos (by omega)]
  simp
theorem hd_take {h : List AllocHolder} {n k : Nat} (hk : k < n) : hd (h.take n) k = hd h k := by
  unfold hd
  rw [List.getD_eq_getElem?_getD, List.getD_eq_getElem?_getD, List.getElem?_take, if_pos hk]
/-- The first that is free. -/
def FreeP (h : List AllocHolder) (n : Nat) (z : Int) : Prop := (z = -1 ∧ ∀ k, k < n → (hd h k).held = true) ∨ ∃ i : Nat, z = (i : Int) ∧ i < n ∧ (hd h i).held = false ∧ ∀ k, k < i → (hd h k).held = true
theorem free_t (d : AllocDesk) (n : Nat) (hh : d.hold.length = 12) (hr : d.regs = (n : Int)) (hn : n ≤ 12) : Tt (alloc_desk_free d) (FreeP d.hold n) := by
  unfold alloc_desk_free
  refine Tt.bnd (show lenOk d.hold 12 = some () by unfold lenOk; rw [if_pos hh]) ?_
  rw [hr]
  refine Tt.bnd (sub_hold (by omega)) ?_
  have hl : (d.hold.take n).length = n := by simp; omega
  have : Tt (slices_IndexFunc_3 (d.hold.take n)) (FreeP d.hold n) := by
    unfold slices_IndexFunc_3
    rw [hl]
    refine Tt.whil (fun t => ∃ k : Nat, t = (k : Int) ∧ k ≤ n ∧ ∀ j, j < k → (hd d.hold j).held = true) (fun t => n - t.toNat) ⟨0, rfl, by omega, fun j h => by omega⟩ (NN_big (by omega)) ?_
    rintro _ ⟨k, rfl, h1, h2⟩
    refine Tt.bif (fun hc => ?_) (fun hc => ?_)
    · have hc := of_decide_eq_true hc
      refine Tt.bnd (hd_at (by omega)) (Tt.bnd (show alloc_desk_free_1 _ = some _ from rfl) ?_)
      rw [hd_take (by omega)]
      refine Tt.bif (fun hq => ?_) (fun hq => ?_)
      · exact Tt.som (.inr (.inr ⟨_, rfl, Tt.som (.inr ⟨k, rfl, by omega, by simpa using hq, h2⟩)⟩))
      · refine Tt.som (.inl ⟨_, rfl, ⟨k + 1, wk1 (by omega), by omega, fun j hj => ?_⟩, by rw [wk1 (by omega)]; omega⟩)
        by_cases hjk : j = k
        · rw [hjk]; simpa using hq
        · exact h2 j (by omega)
    · have hc := of_decide_eq_false hc
      exact Tt.som (.inr (.inl ⟨_, rfl, Tt.som (.inl ⟨rfl, fun k' h => h2 k' (by omega)⟩)⟩))
  exact Tt.bind this fun z hz => Tt.som hz
/-- The one that ends last; of several, the one that came last. -/
def LastP (h : List AllocHolder) (n : Nat) (z : Int) : Prop := (z = -1 ∧ n = 0) ∨ ∃ i : Nat, z = (i : Int) ∧ i < n ∧ ∀ k, k < n → (hd h k).reach.to < (hd h i).reach.to ∨ ((hd h k).reach.to = (hd h i).reach.to ∧ (hd h k).came ≤ (hd h i).came)
theorem last_t (d : AllocDesk) (n : Nat) (hh : d.hold.length = 12) (hr : d.regs = (n : Int)) (hn : n ≤ 12) : Tt (alloc_desk_last d) (LastP d.hold n) := by
  unfold alloc_desk_last
  refine Tt.bnd (show lenOk d.hold 12 = some () by unfold lenOk; rw [if_pos hh]) ?_
  rw [hr]
  refine Tt.bnd (sub_hold (by omega)) ?_
  have hl : (d.hold.take n).length = n := by simp; omega
  rw [hl]
  refine Tt.cnt n (by omega) (fun k t => t.2 = (k : Int) ∧ LastP d.hold k t.1) ⟨rfl, .inl ⟨rfl, rfl⟩⟩ ?_ ?_
  · rintro k hk ⟨x1, x2⟩ ⟨h1, h2⟩
    dsimp only at h1 h2
    subst h1
    dsimp only
    refine Tt.bif (fun _ => ?_) (fun h => by have := of_decide_eq_false h; omega)
    refine Tt.jn1 (fun z => LastP d.hold (k + 1) z) (fun kk hkk => ?_) (fun z hz => Tt.som ⟨_, rfl, wk1 (by omega), hz⟩)
    refine Tt.bnd (hd_at (by omega)) ?_
    rw [hd_take (by omega)]
    rcases h2 with ⟨rfl, rfl⟩ | ⟨i, rfl, hi, hm⟩
    · refine Tt.bif (fun _ => hkk _ (.inr ⟨0, rfl, by omega, fun q hq => ?_⟩)) (fun h => by cases h)
      have : q = 0 := by omega
      subst this
      exact .inr ⟨rfl, Int.le_refl _⟩
    · have hnew : ((hd d.hold i).reach.to < (hd d.hold k).reach.to ∨ ((hd d.hold i).reach.to = (hd d.hold k).reach.to ∧ (hd d.hold i).came ≤ (hd d.hold k).came)) → LastP d.hold (k + 1) (k : Int) := by
        intro h
        refine .inr ⟨k, rfl, by omega, fun q hq => ?_⟩
        by_cases hqk : q = k
        · subst hqk; exact .inr ⟨rfl, Int.le_refl _⟩
        · have := hm q (by omega)
          omega
      have hold : ((hd d.hold k).reach.to < (hd d.hold i).reach.to ∨ ((hd d.hold k).reach.to = (hd d.hold i).reach.to ∧ (hd d.hold k).came ≤ (hd d.hold i).came)) → LastP d.hold (k + 1) (i : Int) := by
        intro h
        refine .inr ⟨i, rfl, by omega, fun q hq => ?_⟩
        by_cases hqk : q = k
        · subst hqk; exact h
        · exact hm q (by omega)
      refine Tt.bif (fun h => by have := of_decide_eq_true h; omega) (fun _ => ?_)
      refine Tt.bnd (hd_at (by omega)) ?_
      refine Tt.bif (fun h => hkk _ (hnew (.inl (of_decide_eq_true h)))) (fun h => ?_)
      have h := of_decide_eq_false h
      refine Tt.bnd (hd_at (by omega)) ?_
      refine Tt.bif (fun he => ?_) (fun he => ?_)
      · have he : (hd d.hold k).reach.to = (hd d.hold i).reach.to := by simpa using he
        refine Tt.bnd (hd_at (by omega)) ?_
        refine Tt.bif (fun hc => ?_) (fun hc => ?_)
        · have hc := of_decide_eq_true hc
          exact hkk _ (hnew (.inr ⟨he.symm, by omega⟩))
        · have hc := of_decide_eq_false hc
          exact hkk _ (hold (.inr ⟨he, by omega⟩))
      · have he : (hd d.hold k).reach.to ≠ (hd d.hold i).reach.to := by simpa using he
        exact hkk _ (hold (.inl (by omega)))
  · rintro ⟨x1, x2⟩ ⟨h1, h2⟩
    dsimp only at h1 h2
    subst h1
    exact ⟨c0 (dge _), Tt.som h2⟩
/-- What holds of a desk. -/
structure Dsk (R n : Nat) (d : AllocDesk) : Prop where
  hold : d.hold.length = 12
  regs : d.regs = (n : Int)
  seats : d.seats.length = R
  held : ∀ k, k < n → (hd d.hold k).held = true → InR R (hd d.hold k).reach.r
/-- What a step does. -/
inductive StepP (n : Nat) (d : AllocDesk) (x : AllocReach) (d' : AllocDesk) : Prop where
  | free (h : List AllocHolder) (i : Nat) (hl : h.length = 12) (hr : ∀ k, k < n → hd h k = rel (hd d.hold k) x.from_) (hi : i < n) (hf : (hd h i).held = false) (hlo : ∀ k, k < i → (hd h k).held = true) (he : d' = takeF { d with hold := h, came := IntKind.wrap .i64 (d.came + 1) } i x)
  | slot (h : List AllocHolder) (hl : h.length = 12) (hr : ∀ k, k < n → hd h k = rel (hd d.hold k) x.from_) (hf : ∀ k, k < n → (hd h k).held = true) (hm : ∀ k, k < n → (hd h k).reach.to ≤ x.to) (he : d' = slotF { d with hold := h, came := IntKind.wrap .i64 (d.came + 1) } x.r)
  | spill (h : List AllocHolder) (i : Nat) (hl : h.length = 12) (hr : ∀ k, k < n → hd h k = rel (hd d.hold k) x.from_) (hf : ∀ k, k < n → (hd h k).held = true) (hi : i < n) (hm : ∀ k, k < n → (hd h k).reach.to < (hd h i).reach.to ∨ ((hd h k).reach.to = (hd h i).reach.to ∧ (hd h k).came ≤ (hd h i).came)) (hx : x.to < (hd h i).reach.to) (he : d' = takeF (slotF { d with hold := h, came := IntKind.wrap .i64 (d.came + 1) } (hd h i).reach.r) i x)
theorem step_t (R n : Nat) (d : AllocDesk) (x : AllocReach) (hn : n ≤ 12) (hd0 : Dsk R n d) (hx : InR R x.r) : Tt (alloc_desk_step d x) (StepP n d x) := by
  obtain ⟨g1, g2, g3, g4⟩ := hd0
  unfold alloc_desk_step
  refine Tt.bnd (show lenOk d.hold 12 = some () by unfold lenOk; rw [if_pos g1]) ?_
  refine Tt.bnd (show sub d.hold 0 d.regs = some (d.hold.take n) by rw [g2]; exact sub_hold (by omega)) ?_
  have hl : (d.hold.take n).length = n := by simp; omega
  rw [hl]
  refine Tt.cnt n (by omega) (fun k t => t.1 = (k : Int) ∧ ∃ h : List AllocHolder, t.2 = { d with hold := h, came := IntKind.wrap .i64 (d.came + 1) } ∧ h.length = 12 ∧ ∀ q, q < n → hd h q = bif decide (q < k) then rel (hd d.hold q) x.from_ else hd d.hold q) ⟨rfl, d.hold, rfl, g1, fun q hq => rfl⟩ ?_ ?_
  · rintro k hk ⟨x2, x3⟩ ⟨h1, h, h2, h3, h4⟩
    dsimp only at h1 h2
    subst h1 h2
    dsimp only
    refine Tt.bif (fun _ => ?_) (fun h => by have := of_decide_eq_false h; omega)
    have hk4 := h4 k hk
    rw [show decide (k < k) = false by simp, cond_false] at hk4
    have hother : ∀ q, q ≠ k → decide (q < k + 1) = decide (q < k) := fun q hq => by congr 1; apply propext; omega
    have hsame : rel (hd d.hold k) x.from_ = hd d.hold k → ∀ q, q < n → hd h q = bif decide (q < k + 1) then rel (hd d.hold q) x.from_ else hd d.hold q := by
      intro he q hq
      by_cases hqk : q = k
      · subst hqk
        rw [hk4, he]
        cases decide (q < q + 1) <;> rfl
      · rw [hother q hqk]; exact h4 q hq
    refine Tt.jn1 (fun z : AllocDesk => ∃ h : List AllocHolder, z = { d with hold := h, came := IntKind.wrap .i64 (d.came + 1) } ∧ h.length = 12 ∧ ∀ q, q < n → hd h q = bif decide (q < k + 1) then rel (hd d.hold q) x.from_ else hd d.hold q) (fun kk hkk => ?_) (fun z hz => Tt.som ⟨_, rfl, wk1 (by omega), hz⟩)
    refine Tt.bnd (show lenOk h 12 = some () by unfold lenOk; rw [if_pos h3]) ?_
    refine Tt.bnd (hd_at (by omega)) ?_
    rw [hk4]
    refine Tt.bif (fun q1 => ?_) (fun q1 => ?_)
    · refine Tt.bif (fun q2 => ?_) (fun q2 => ?_)
      · refine Tt.bnd (hd_at (by omega)) (hkk _ ⟨_, rfl, by simp [h3], fun q hq => ?_⟩)
        rw [show (k : Int).toNat = k by omega, hd_set (by omega)]
        by_cases hqk : q = k
        · subst hqk
          rw [if_pos rfl, show decide (q < q + 1) = true by simp, cond_true, hk4]
          unfold rel
          rw [q1, q2]
          rfl
        · rw [if_neg hqk, hother q hqk]; exact h4 q hq
      · exact hkk _ ⟨h, rfl, h3, hsame (by unfold rel; rw [q1, q2]; rfl)⟩
    · exact hkk _ ⟨h, rfl, h3, hsame (by unfold rel; rw [q1]; rfl)⟩
  · rintro ⟨x2, x3⟩ ⟨h1, h, h2, h3, h4⟩
    dsimp only at h1 h2
    subst h1 h2
    refine ⟨c0 (dge _), ?_⟩
    have h4 : ∀ q, q < n → hd h q = rel (hd d.hold q) x.from_ := fun q hq => by
      rw [h4 q hq, show decide (q < n) = true by simpa using hq, cond_true]
    have hheld : ∀ q, q < n → (hd h q).held = true → InR R (hd h q).reach.r := by
      intro q hq hh
      rw [h4 q hq] at hh ⊢
      have h5 := g4 q hq
      unfold rel at hh ⊢
      cases hc : ((hd d.hold q).held && decide ((hd d.hold q).reach.to < x.from_)) with
      | true => rw [hc] at hh; cases hh
      | false => rw [hc] at hh; exact h5 hh
    dsimp only [Lp.thn]
    generalize hdd : ({ d with hold := h, came := IntKind.wrap .i64 (d.came + 1) } : AllocDesk) = d1
    have e1 : d1.hold = h := by rw [← hdd]
    have e2 : d1.regs = (n : Int) := by rw [← hdd]; exact g2
    have e3 : d1.seats = d.seats := by rw [← hdd]
    refine Tt.bind (free_t d1 n (by rw [e1]; exact h3) e2 hn) fun y1 hy => ?_
    rw [e1] at hy
    rcases hy with ⟨rfl, hall⟩ | ⟨i, rfl, hi, hf, hlo⟩
    · refine Tt.bif (fun h => by cases h) (fun _ => ?_)
      refine Tt.bind (last_t d1 n (by rw [e1]; exact h3) e2 hn) fun y3 hy3 => ?_
      rw [e1] at hy3
      rcases hy3 with ⟨rfl, hn0⟩ | ⟨i, rfl, hi, hm⟩
      · refine Tt.bif (fun _ => ?_) (fun h => by cases h)
        refine Tt.bnd (slot_eq d1 x.r (by rw [e1]; exact h3) (by rw [e3, g3]; exact hx)) (Tt.som ?_)
        exact .slot h h3 h4 hall (fun k hk => by omega) (by rw [hdd])
      · refine Tt.bif (fun h => by have := of_decide_eq_true h; omega) (fun _ => ?_)
        refine Tt.bnd (show lenOk h 12 = some () by unfold lenOk; rw [if_pos h3]) ?_
        try rw [e1]
        refine Tt.bnd (hd_at (by omega)) ?_
        refine Tt.bif (fun hc => ?_) (fun hc => ?_)
        · have hc := of_decide_eq_true hc
          refine Tt.bnd (slot_eq d1 x.r (by rw [e1]; exact h3) (by rw [e3, g3]; exact hx)) (Tt.som ?_)
          exact .slot h h3 h4 hall (fun k hk => by have := hm k hk; omega) (by rw [hdd])
        · have hc := of_decide_eq_false hc
          refine Tt.bnd (hd_at (by omega)) ?_
          refine Tt.bnd (slot_eq d1 _ (by rw [e1]; exact h3) (by rw [e3, g3]; exact hheld i hi (hall i hi))) ?_
          refine Tt.bnd (take_eq _ i x (by show d1.hold.length = 12; rw [e1]; exact h3) (by omega) (by show InR (List.length (List.set d1.seats _ _)) _; rw [List.length_set, e3, g3]; exact hx)) (Tt.som ?_)
          exact .spill h i h3 h4 hall hi hm (by omega) (by rw [hdd])
    · refine Tt.bif (fun _ => ?_) (fun h => by have := of_decide_eq_false h; omega)
      refine Tt.bnd (take_eq d1 i x (by rw [e1]; exact h3) (by omega) (by rw [e3, g3]; exact hx)) (Tt.som ?_)
      exact .free h i h3 h4 hi hf hlo (by rw [hdd])
theorem StepP.dsk {R n : Nat} {d d' : AllocDesk} {x : AllocReach} (hn : n ≤ 12) (h : StepP n d x d') (hd0 : Dsk R n d) (hx : InR R x.r) : Dsk R n d' := by
  obtain ⟨g1, g2, g3, g4⟩ := hd0
  have hheld : ∀ (h : List AllocHolder), (∀ k, k < n → hd h k = rel (hd d.hold k) x.from_) → ∀ q, q < n → (hd h q).held = true → InR R (hd h q).reach.r := by
    intro h h4 q hq hh
    rw [h4 q hq] at hh ⊢
    have h5 := g4 q hq
    unfold rel at hh ⊢
    cases hc : ((hd d.hold q).held && decide ((hd d.hold q).reach.to < x.from_)) with
    | true => rw [hc] at hh; cases hh
    | false => rw [hc] at hh; exact h5 hh
  have htake : ∀ (h : List AllocHolder) (i : Nat) (c : Int), h.length = 12 → i < n → (∀ k, k < n → hd h k = rel (hd d.hold k) x.from_) → ∀ q, q < n → (hd (h.set i ⟨x, c, true⟩) q).held = true → InR R (hd (h.set i ⟨x, c, true⟩) q).reach.r := by
    intro h i c hl hi hr q hq
    rw [hd_set (by omega)]
    split
    · intro _; exact hx
    · exact hheld h hr q hq
  cases h with
  | free h i hl hr hi hf hlo he => subst he; exact ⟨by simp [takeF, hl], g2, by simp [takeF, g3], htake h i _ hl hi hr⟩
  | slot h hl hr hf hm he => subst he; exact ⟨hl, g2, by simp [slotF, g3], hheld h hr⟩
  | spill h i hl hr hf hi hm hx he => subst he; exact ⟨by simp [takeF, slotF, hl], g2, by simp [takeF, slotF, g3], htake h i _ hl hi hr⟩
end Go.Proofs.YteoihjfnojgnnaaGreat
