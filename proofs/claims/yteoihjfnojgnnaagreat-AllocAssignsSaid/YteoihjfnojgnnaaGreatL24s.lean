/- Plain laws on the models of sorting: an exchange, an order, sorting by insertion. No program is in sight here. -/
import Derived.Test.YteoihjfnojgnnaaGreatL24c
set_option linter.unusedVariables false
namespace Go.Proofs.YteoihjfnojgnnaaGreat

/-! The order. -/
def ltb (x y : AllocReach) : Bool := decide (x.from_ < y.from_ ∨ (x.from_ = y.from_ ∧ (x.to < y.to ∨ (x.to = y.to ∧ x.r < y.r))))
theorem ltb_t {x y : AllocReach} (h : ltb x y = true) : x.from_ < y.from_ ∨ (x.from_ = y.from_ ∧ (x.to < y.to ∨ (x.to = y.to ∧ x.r < y.r))) := of_decide_eq_true h
theorem ltb_f {x y : AllocReach} (h : ltb x y = false) : ¬ (x.from_ < y.from_ ∨ (x.from_ = y.from_ ∧ (x.to < y.to ∨ (x.to = y.to ∧ x.r < y.r)))) := of_decide_eq_false h
/-- Not behind. -/
def Le (x y : AllocReach) : Prop := ltb y x = false
theorem Le.refl (x : AllocReach) : Le x x := by unfold Le ltb; apply decide_eq_false; omega
theorem Le.trans {x y z : AllocReach} (h1 : Le x y) (h2 : Le y z) : Le x z := by
  have h1 := ltb_f h1
  have h2 := ltb_f h2
  unfold Le ltb
  apply decide_eq_false
  omega
theorem Le.of {x y : AllocReach} (h : ltb x y = true) : Le x y := by
  have h := ltb_t h
  unfold Le ltb
  apply decide_eq_false
  omega
theorem lt_le {x y z : AllocReach} (h1 : ltb x y = true) (h2 : Le y z) : ltb x z = true := by
  have h1 := ltb_t h1
  have h2 := ltb_f h2
  unfold ltb
  apply decide_eq_true
  omega
def sgn (a b : Int) : Int := bif decide (a < b) then -1 else (bif decide (b < a) then 1 else 0)
theorem Compare_eq (a b : Int) : cmp_Compare a b = some (sgn a b) := by
  have h : ∀ a : Int, cmp_isNaN a = some false := fun a => by unfold cmp_isNaN; simp
  unfold cmp_Compare sgn
  rw [h, h]
  simp only [Option.bind_some, cond_false]
  cases decide (a < b)
  · cases decide (b < a) <;> rfl
  · rfl
theorem Or_eq (a b c : Int) : cmp_Or [a, b, c] = some (bif a != 0 then a else (bif b != 0 then b else c)) := by
  unfold cmp_Or
  have hw : ∀ k : Nat, k < 3 → IntKind.wrap .i64 ((k : Int) + 1) = ((k + 1 : Nat) : Int) := fun k hk => by rw [w64 (by omega)]; omega
  cases ha : (a != 0) with
  | true =>
    refine run_bind (fun k => (k : Int)) 0 (.ret a) rfl (by omega) (fun k hk => by omega) ?_ trivial rfl
    exact c1 ha
  | false =>
    have s0 : (idx [a, b, c] ((0 : Nat) : Int)) = some a := rfl
    cases hb : (b != 0) with
    | true =>
      refine run_bind (fun k => (k : Int)) 1 (.ret b) rfl (by omega) (fun k hk => ?_) ?_ trivial rfl
      · have : k = 0 := by omega
        subst this
        exact (c0 ha).trans (by rw [hw 0 (by omega)])
      · exact c1 hb
    | false =>
      cases hc : (c != 0) with
      | true =>
        refine run_bind (fun k => (k : Int)) 2 (.ret c) rfl (by omega) (fun k hk => ?_) ?_ trivial rfl
        · rcases (show k = 0 ∨ k = 1 by omega) with rfl | rfl
          · exact (c0 ha).trans (by rw [hw 0 (by omega)])
          · exact (c0 hb).trans (by rw [hw 1 (by omega)])
        · exact c1 hc
      | false =>
        have hc0 : c = 0 := by simpa using hc
        refine run_bind (fun k => (k : Int)) 3 (.brk 3) rfl (by omega) (fun k hk => ?_) rfl trivial (by rw [hc0]; rfl)
        rcases (show k = 0 ∨ k = 1 ∨ k = 2 by omega) with rfl | rfl | rfl
        · exact (c0 ha).trans (by rw [hw 0 (by omega)])
        · exact (c0 hb).trans (by rw [hw 1 (by omega)])
        · exact (c0 hc).trans (by rw [hw 2 (by omega)])
theorem cmp_t (x y : AllocReach) : Tt (alloc_Assign_2 x y) (fun c => decide (c < 0) = ltb x y) := by
  unfold alloc_Assign_2
  rw [Compare_eq, Compare_eq, Compare_eq]
  refine Tt.bnd rfl (Tt.bnd rfl (Tt.bnd rfl (Tt.bnd (Or_eq _ _ _) (Tt.som ?_))))
  unfold ltb
  have hs : ∀ a b : Int, (a < b ∧ sgn a b = -1) ∨ (a = b ∧ sgn a b = 0) ∨ (b < a ∧ sgn a b = 1) := by
    intro a b
    unfold sgn
    by_cases h : a < b
    · exact .inl ⟨h, c1 (dt h)⟩
    · by_cases h2 : b < a
      · exact .inr (.inr ⟨h2, by rw [c0 (df h), c1 (dt h2)]⟩)
      · exact .inr (.inl ⟨by omega, by rw [c0 (df h), c0 (df h2)]⟩)
  rcases hs x.from_ y.from_ with ⟨h1, e1⟩ | ⟨h1, e1⟩ | ⟨h1, e1⟩ <;> rw [e1]
  · exact (show decide ((-1 : Int) < 0) = true from rfl).trans (dt (.inl h1)).symm
  · rcases hs x.to y.to with ⟨h2, e2⟩ | ⟨h2, e2⟩ | ⟨h2, e2⟩ <;> rw [e2]
    · exact (show decide ((-1 : Int) < 0) = true from rfl).trans (dt (.inr ⟨h1, .inl h2⟩)).symm
    · rcases hs x.r y.r with ⟨h3, e3⟩ | ⟨h3, e3⟩ | ⟨h3, e3⟩ <;> rw [e3]
      · exact (show decide ((-1 : Int) < 0) = true from rfl).trans (dt (.inr ⟨h1, .inr ⟨h2, h3⟩⟩)).symm
      · exact (show decide ((0 : Int) < 0) = false from rfl).trans (df (by omega)).symm
      · exact (show decide ((1 : Int) < 0) = false from rfl).trans (df (by omega)).symm
    · exact (show decide ((1 : Int) < 0) = false from rfl).trans (df (by omega)).symm
  · exact (show decide ((1 : Int) < 0) = false from rfl).trans (df (by omega)).symm

/-! Exchanges. -/
def gR (l : List AllocReach) (i : Nat) : AllocReach := l.getD i ⟨0, 0, 0, false⟩
theorem gt_at {l : List AllocReach} {i : Nat} (h : i < l.length) : gR l i = l[i] := by
  unfold gR
  rw [List.getD_eq_getElem?_getD, List.getElem?_eq_getElem h]
  rfl
theorem idx_gt {l : List AllocReach} {i : Nat} (h : i < l.length) : idx l (i : Int) = some (gR l i) := by rw [idx_get h, gt_at h]
theorem gt_set {l : List AllocReach} {i j : Nat} {x : AllocReach} (h : i < l.length) : gR (l.set i x) j = if j = i then x else gR l j := by
  unfold gR
  rw [List.getD_eq_getElem?_getD, List.getD_eq_getElem?_getD]
  by_cases hj : j = i
  · subst hj
    rw [List.getElem?_set_self h, if_pos rfl]
    rfl
  · rw [List.getElem?_set_ne (fun e => hj e.symm), if_neg hj]
def swp (l : List AllocReach) (i j : Nat) : List AllocReach := (l.set i (gR l j)).set j (gR l i)
theorem swp_len (l : List AllocReach) (i j : Nat) : (swp l i j).length = l.length := by simp [swp]
theorem gt_swp {l : List AllocReach} {i j k : Nat} (hi : i < l.length) (hj : j < l.length) : gR (swp l i j) k = if k = j then gR l i else if k = i then gR l j else gR l k := by
  unfold swp
  rw [gt_set (by simpa using hj), gt_set hi]
theorem swp_perm {l : List AllocReach} {i j : Nat} (hi : i < l.length) (hj : j < l.length) : (swp l i j).Perm l := by
  unfold swp
  rw [gt_at hi, gt_at hj]
  exact List.set_set_perm hi hj
/-- Only what stands from a to b changes its place. -/
structure PO (l y : List AllocReach) (a b : Nat) : Prop where
  len : y.length = l.length
  perm : y.Perm l
  out : ∀ i, i < a ∨ b ≤ i → gR y i = gR l i
  inn : ∀ i, a ≤ i → i < b → ∃ j, a ≤ j ∧ j < b ∧ gR y i = gR l j
theorem PO.refl (l : List AllocReach) (a b : Nat) : PO l l a b := ⟨rfl, .refl _, fun _ _ => rfl, fun i h1 h2 => ⟨i, h1, h2, rfl⟩⟩
theorem PO.trans {l y z : List AllocReach} {a b : Nat} (h1 : PO l y a b) (h2 : PO y z a b) : PO l z a b where
  len := h2.len.trans h1.len
  perm := h2.perm.trans h1.perm
  out := fun i h => (h2.out i h).trans (h1.out i h)
  inn := fun i ha hb => by
    obtain ⟨j, j1, j2, e⟩ := h2.inn i ha hb
    obtain ⟨k, k1, k2, e2⟩ := h1.inn j j1 j2
    exact ⟨k, k1, k2, e.trans e2⟩
theorem PO.mono {l y : List AllocReach} {a b a' b' : Nat} (h : PO l y a b) (ha : a' ≤ a) (hb : b ≤ b') : PO l y a' b' where
  len := h.len
  perm := h.perm
  out := fun i hi => h.out i (by omega)
  inn := fun i h1 h2 => by
    by_cases hi : a ≤ i ∧ i < b
    · obtain ⟨j, j1, j2, e⟩ := h.inn i hi.1 hi.2
      exact ⟨j, by omega, by omega, e⟩
    · exact ⟨i, h1, h2, h.out i (by omega)⟩
theorem PO.swp {l : List AllocReach} {i j a b : Nat} (hi : i < l.length) (hj : j < l.length) (h1 : a ≤ i ∧ i < b) (h2 : a ≤ j ∧ j < b) : PO l (swp l i j) a b where
  len := swp_len _ _ _
  perm := swp_perm hi hj
  out := fun k hk => by rw [gt_swp hi hj, if_neg (by omega), if_neg (by omega)]
  inn := fun k k1 k2 => by
    rw [gt_swp hi hj]
    split
    · exact ⟨i, h1.1, h1.2, rfl⟩
    · split
      · exact ⟨j, h2.1, h2.2, rfl⟩
      · exact ⟨k, k1, k2, rfl⟩
/-- The words in which an exchange is written. -/
theorem swp_t {A : Type} {l : List AllocReach} {i j : Nat} (hi : i < l.length) (hj : j < l.length) {f : List AllocReach → Option A} {Q : A → Prop} (h : Tt (f (swp l i j)) Q) :
    Tt ((idx l (j : Int)).bind fun u1 => (idx l (i : Int)).bind fun u2 => (idx l (i : Int)).bind fun u3 => (idx l (i : Int)).bind fun u4 => (idx (List.set l (Int.toNat (i : Int)) u1) (j : Int)).bind fun u5 => (idx (List.set l (Int.toNat (i : Int)) u1) (j : Int)).bind fun u6 => f (List.set (List.set l (Int.toNat (i : Int)) u1) (Int.toNat (j : Int)) u2)) Q := by
  refine Tt.bnd (idx_gt hj) (Tt.bnd (idx_gt hi) (Tt.bnd (idx_gt hi) (Tt.bnd (idx_gt hi) ?_)))
  refine Tt.bnd (idx_gt (by simpa using hj)) (Tt.bnd (idx_gt (by simpa using hj)) ?_)
  exact h
def Srt (l : List AllocReach) (a b : Nat) : Prop := ∀ i j, a ≤ i → i < j → j < b → Le (gR l i) (gR l j)

theorem wk1 {k : Nat} (h : k < 1000000) : IntKind.wrap .i64 ((k : Int) + 1) = ((k + 1 : Nat) : Int) := by rw [w64 (by omega)]; omega
theorem wkm {k : Nat} (h : k < 1000000) (h1 : 1 ≤ k) : IntKind.wrap .i64 ((k : Int) - 1) = ((k - 1 : Nat) : Int) := by rw [w64 (by omega)]; omega

/-! By insertion. -/
theorem insert_t (l : List AllocReach) (a b : Nat) (hab : a ≤ b) (hb : b ≤ l.length) (hl : l.length ≤ 1000) : Tt (slices_insertionSortCmpFunc l a b) (fun y => PO l y a b ∧ Srt y a b) := by
  unfold slices_insertionSortCmpFunc
  rw [wk1 (by omega)]
  by_cases hab2 : b ≤ a
  · refine Tt.cnt 0 (by omega) (fun k t => t = (l, ((a + 1 : Nat) : Int))) rfl (fun k hk => by omega) ?_
    rintro _ rfl
    exact ⟨c0 (df (by omega)), Tt.som ⟨PO.refl _ _ _, fun i j h1 h2 h3 => by omega⟩⟩
  refine Tt.cnt (b - (a + 1)) (by omega) (fun k t => t.2 = ((a + 1 + k : Nat) : Int) ∧ PO l t.1 a b ∧ Srt t.1 a (a + 1 + k)) ⟨rfl, PO.refl _ _ _, fun i j h1 h2 h3 => by omega⟩ ?_ ?_
  · rintro k hk ⟨x, p⟩ ⟨h1, h2, h3⟩
    dsimp only at h1 h2 h3
    subst h1
    generalize hp : a + 1 + k = p at h3
    have hxl := h2.len
    dsimp only
    refine Tt.bif (fun _ => ?_) (fun h => by have := of_decide_eq_false h; omega)
    refine Tt.whil (fun t => ∃ j : Nat, t.2 = (j : Int) ∧ a ≤ j ∧ j ≤ p ∧ PO l t.1 a b ∧ ∀ i q, a ≤ i → i < q → q < p + 1 → q ≠ j → Le (gR t.1 i) (gR t.1 q)) (fun t => t.2.toNat) ⟨p, rfl, by omega, Nat.le_refl _, h2, fun i q h1 h4 h5 h6 => h3 i q h1 h4 (by omega)⟩ (NN_big (by dsimp only; omega)) ?_
    rintro ⟨y, jj⟩ ⟨j, g1, g2, g3, g4, g5⟩
    dsimp only at g1 g4 g5
    subst g1
    have hyl := g4.len
    have hdone : ∀ (y' : List AllocReach), (∀ i q, a ≤ i → i < q → q < p + 1 → Le (gR y' i) (gR y' q)) → PO l y' a b → Tt (some (Lp.go (y', IntKind.wrap .i64 ((p : Int) + 1))) : Option (Lp (List AllocReach × Int) Unit)) (fun z => ∃ t', z = .go t' ∧ t'.2 = ((a + 1 + (k + 1) : Nat) : Int) ∧ PO l t'.1 a b ∧ Srt t'.1 a (a + 1 + (k + 1))) := by
      intro y' hs hpo
      refine Tt.som ⟨_, rfl, by dsimp only; rw [wk1 (by omega)]; omega, hpo, ?_⟩
      rw [show a + 1 + (k + 1) = p + 1 by omega]
      exact hs
    dsimp only
    refine Tt.bif (fun hc => ?_) (fun hc => ?_)
    · have hc := of_decide_eq_true hc
      rw [wkm (by omega) (by omega)]
      refine Tt.bnd (idx_gt (by omega)) (Tt.bnd (idx_gt (by omega)) (Tt.bind (cmp_t _ _) fun c hcc => ?_))
      rw [hcc]
      refine Tt.bif (fun hlt => ?_) (fun hlt => ?_)
      · refine swp_t (i := j) (j := j - 1) (f := fun z => some (Lp.go (z, ((j - 1 : Nat) : Int)))) (by omega) (by omega) (Tt.som (.inl ⟨_, rfl, ⟨j - 1, rfl, by omega, by omega, g4.trans (PO.swp (by omega) (by omega) (by omega) (by omega)), fun i q h1 h4 h5 h6 => ?_⟩, by dsimp only; omega⟩))
        dsimp only
        rw [gt_swp (by omega) (by omega), gt_swp (by omega) (by omega)]
        by_cases q1 : q = j
        · subst q1
          rw [if_neg (show ¬ q = q - 1 by omega), if_pos (rfl : q = q)]
          by_cases q2 : i = q - 1
          · rw [if_pos q2]; exact Le.of hlt
          · rw [if_neg q2, if_neg (by omega)]
            exact g5 i (q - 1) h1 (by omega) (by omega) (by omega)
        · rw [if_neg h6, if_neg q1]
          by_cases q2 : i = j - 1
          · rw [if_pos q2]; exact g5 j q (by omega) (by omega) h5 q1
          · rw [if_neg q2]
            by_cases q3 : i = j
            · rw [if_pos q3]; exact g5 (j - 1) q (by omega) (by omega) h5 q1
            · rw [if_neg q3]; exact g5 i q h1 h4 h5 q1
      · refine Tt.som (.inr (.inl ⟨_, rfl, hdone y (fun i q h1 h4 h5 => ?_) g4⟩))
        by_cases q1 : q = j
        · subst q1
          by_cases q2 : i = q - 1
          · rw [q2]; exact hlt
          · exact (g5 i (q - 1) h1 (by omega) (by omega) (by omega)).trans hlt
        · exact g5 i q h1 h4 h5 q1
    · have hc := of_decide_eq_false hc
      exact Tt.som (.inr (.inl ⟨_, rfl, hdone y (fun i q h1 h4 h5 => g5 i q h1 h4 h5 (by omega)) g4⟩))
  · rintro ⟨x, p⟩ ⟨h1, h2, h3⟩
    dsimp only at h1 h2 h3
    subst h1
    refine ⟨c0 (df (by omega)), Tt.som ⟨h2, ?_⟩⟩
    rw [show a + 1 + (b - (a + 1)) = b by omega] at h3
    exact h3
end Go.Proofs.YteoihjfnojgnnaaGreat
