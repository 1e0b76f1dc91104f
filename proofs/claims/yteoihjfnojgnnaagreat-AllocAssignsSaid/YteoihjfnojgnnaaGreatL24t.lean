/- Plain laws on the models of sorting: by a heap; what only moves things. No program is in sight here. -/
import Derived.Test.YteoihjfnojgnnaaGreatL24s
set_option linter.unusedVariables false
namespace Go.Proofs.YteoihjfnojgnnaaGreat

theorem wz {x : Int} (n : Nat) (h : x = (n : Int)) (hn : n < 4611686018427387904) : IntKind.wrap .i64 x = (n : Int) := by rw [w64 (by omega)]; exact h

/-! By a heap. -/
def Hp (l : List AllocReach) (f lo hi : Nat) : Prop := ∀ i c, lo ≤ i → (c = 2 * i + 1 ∨ c = 2 * i + 2) → c < hi → Le (gR l (f + c)) (gR l (f + i))
theorem Hp.top {l : List AllocReach} {f hi : Nat} (h : Hp l f 0 hi) : ∀ c, c < hi → Le (gR l (f + c)) (gR l f) := by
  intro c
  induction c using Nat.strongRecOn with
  | _ c ih =>
    intro hc
    rcases Nat.eq_zero_or_pos c with rfl | h0
    · exact Le.refl _
    · have h1 := h ((c - 1) / 2) c (by omega) (by omega) hc
      exact h1.trans (ih ((c - 1) / 2) (by omega) (by omega))
theorem sift_t (l : List AllocReach) (lo hi f : Nat) (hl : l.length ≤ 1000) (hf : f + hi ≤ l.length) (hh : Hp l f (lo + 1) hi) (hlo : lo ≤ hi) : Tt (slices_siftDownCmpFunc l lo hi f) (fun y => PO l y f (f + hi) ∧ Hp y f lo hi) := by
  unfold slices_siftDownCmpFunc
  refine Tt.whil (fun t => ∃ r : Nat, t.2 = (r : Int) ∧ lo ≤ r ∧ r ≤ hi ∧ PO l t.1 f (f + hi) ∧ (∀ i c, lo ≤ i → i ≠ r → (c = 2 * i + 1 ∨ c = 2 * i + 2) → c < hi → Le (gR t.1 (f + c)) (gR t.1 (f + i))) ∧ (∀ i c, lo ≤ i → (r = 2 * i + 1 ∨ r = 2 * i + 2) → (c = 2 * r + 1 ∨ c = 2 * r + 2) → c < hi → Le (gR t.1 (f + c)) (gR t.1 (f + i)))) (fun t => 1000 - t.2.toNat)
    ⟨lo, rfl, Nat.le_refl _, hlo, PO.refl _ _ _, fun i c h1 h2 h3 h4 => hh i c (by omega) h3 h4, fun i c h1 h2 h3 h4 => by omega⟩ (NN_big (by omega)) ?_
  rintro ⟨x, rr⟩ ⟨r, h1, h2, h2', h3, hA, hB⟩
  dsimp only at h1 h3 hA hB
  subst h1
  have hxl := h3.len
  have w1 : IntKind.wrap .i64 ((IntKind.wrap .i64 (2 * (r : Int))) + 1) = ((2 * r + 1 : Nat) : Int) := wz _ (by rw [wz (2 * r) (by omega) (by omega)]; omega) (by omega)
  dsimp only
  rw [w1]
  refine Tt.bif (fun hc => ?_) (fun hc => ?_)
  · have hc := of_decide_eq_true hc
    refine Tt.som (.inr (.inl ⟨_, rfl, Tt.som ⟨h3, fun i c a1 a2 a3 => ?_⟩⟩))
    exact hA i c a1 (by omega) a2 a3
  · have hc := of_decide_eq_false hc
    have w2 : IntKind.wrap .i64 (((2 * r + 1 : Nat) : Int) + 1) = ((2 * r + 2 : Nat) : Int) := wz _ (by omega) (by omega)
    have w3 : IntKind.wrap .i64 ((f : Int) + ((2 * r + 1 : Nat) : Int)) = ((f + (2 * r + 1) : Nat) : Int) := wz _ (by omega) (by omega)
    have w4 : IntKind.wrap .i64 (((f + (2 * r + 1) : Nat) : Int) + 1) = ((f + (2 * r + 2) : Nat) : Int) := wz _ (by omega) (by omega)
    have w5 : IntKind.wrap .i64 ((f : Int) + (r : Int)) = ((f + r : Nat) : Int) := wz _ (by omega) (by omega)
    rw [w2, w3, w4]
    have hmid : ∀ m : Nat, (m = 2 * r + 1 ∨ m = 2 * r + 2) → m < hi → (∀ c, (c = 2 * r + 1 ∨ c = 2 * r + 2) → c < hi → Le (gR x (f + c)) (gR x (f + m))) →
        Tt ((idx x (IntKind.wrap .i64 ((f : Int) + (r : Int)))).bind fun u3 => (idx x (IntKind.wrap .i64 ((f : Int) + (m : Int)))).bind fun u4 => (alloc_Assign_2 u3 u4).bind fun y2 => bif !(decide (y2 < 0)) then (some (Lp.ret x)) else ((idx x (IntKind.wrap .i64 ((f : Int) + (m : Int)))).bind fun u5 => (idx x (IntKind.wrap .i64 ((f : Int) + (r : Int)))).bind fun u6 => (idx x (IntKind.wrap .i64 ((f : Int) + (r : Int)))).bind fun u7 => (idx x (IntKind.wrap .i64 ((f : Int) + (r : Int)))).bind fun u8 => (idx (List.set x (Int.toNat (IntKind.wrap .i64 ((f : Int) + (r : Int)))) u5) (IntKind.wrap .i64 ((f : Int) + (m : Int)))).bind fun u9 => (idx (List.set x (Int.toNat (IntKind.wrap .i64 ((f : Int) + (r : Int)))) u5) (IntKind.wrap .i64 ((f : Int) + (m : Int)))).bind fun u10 => some (Lp.go (List.set (List.set x (Int.toNat (IntKind.wrap .i64 ((f : Int) + (r : Int)))) u5) (Int.toNat (IntKind.wrap .i64 ((f : Int) + (m : Int)))) u6, (m : Int)))) : Option (Lp (List AllocReach × Int) (List AllocReach)))
        (fun z => (∃ t', z = .go t' ∧ (∃ r : Nat, t'.2 = (r : Int) ∧ lo ≤ r ∧ r ≤ hi ∧ PO l t'.1 f (f + hi) ∧ (∀ i c, lo ≤ i → i ≠ r → (c = 2 * i + 1 ∨ c = 2 * i + 2) → c < hi → Le (gR t'.1 (f + c)) (gR t'.1 (f + i))) ∧ (∀ i c, lo ≤ i → (r = 2 * i + 1 ∨ r = 2 * i + 2) → (c = 2 * r + 1 ∨ c = 2 * r + 2) → c < hi → Le (gR t'.1 (f + c)) (gR t'.1 (f + i)))) ∧ 1000 - t'.2.toNat < 1000 - (r : Int).toNat) ∨ (∃ t', z = .brk t' ∧ Tt (some t'.1) fun y => PO l y f (f + hi) ∧ Hp y f lo hi) ∨ ∃ y, z = .ret y ∧ Tt (some y) fun y => PO l y f (f + hi) ∧ Hp y f lo hi) := by
      intro m hm hmh hbig
      have w6 : IntKind.wrap .i64 ((f : Int) + (m : Int)) = ((f + m : Nat) : Int) := wz _ (by omega) (by omega)
      rw [w5, w6]
      have i1 : f + r < x.length := by omega
      have i2 : f + m < x.length := by omega
      refine Tt.bnd (idx_gt i1) (Tt.bnd (idx_gt i2) (Tt.bind (cmp_t _ _) fun y hy => ?_))
      rw [hy]
      refine Tt.bif (fun hq => ?_) (fun hq => ?_)
      · have hq : ltb (gR x (f + r)) (gR x (f + m)) = false := by simpa using hq
        refine Tt.som (.inr (.inr ⟨_, rfl, Tt.som ⟨h3, fun i c a1 a2 a3 => ?_⟩⟩))
        by_cases hir : i = r
        · subst hir
          exact (hbig c a2 a3).trans hq
        · exact hA i c a1 hir a2 a3
      · have hq : ltb (gR x (f + r)) (gR x (f + m)) = true := by simpa using hq
        refine swp_t (f := fun z => some (Lp.go (z, (m : Int)))) i1 i2 (Tt.som (.inl ⟨_, rfl, ⟨m, rfl, by omega, by omega, h3.trans (PO.swp i1 i2 (by omega) (by omega)), fun i c a1 a2 a3 a4 => ?_, fun i c a1 a2 a3 a4 => ?_⟩, by dsimp only; omega⟩))
        · dsimp only
          rw [gt_swp i1 i2, gt_swp i1 i2]
          by_cases hir : i = r
          · subst hir
            rw [if_neg (show ¬ f + i = f + m by omega), if_pos (rfl : f + i = f + i)]
            by_cases hcm : c = m
            · rw [if_pos (by omega)]; exact Le.of hq
            · rw [if_neg (by omega), if_neg (by omega)]; exact hbig c a3 a4
          · rw [if_neg (show ¬ f + i = f + m by omega), if_neg (show ¬ f + i = f + r by omega), if_neg (show ¬ f + c = f + m by omega)]
            by_cases hcr : c = r
            · rw [if_pos (by omega)]
              subst hcr
              exact hB i m a1 a3 hm hmh
            · rw [if_neg (by omega)]
              exact hA i c a1 hir a3 a4
        · dsimp only
          have hir : i = r := by omega
          subst hir
          rw [gt_swp i1 i2, gt_swp i1 i2, if_neg (show ¬ f + c = f + m by omega), if_neg (show ¬ f + c = f + i by omega), if_neg (show ¬ f + i = f + m by omega), if_pos (rfl : f + i = f + i)]
          exact hA m c (by omega) (by omega) a3 a4
    unfold jn
    refine Tt.bif (fun hc2 => ?_) (fun hc2 => ?_)
    · have hc2 := of_decide_eq_true hc2
      refine Tt.bnd (idx_gt (by omega)) (Tt.bnd (idx_gt (by omega)) (Tt.bind (cmp_t _ _) fun y hy => ?_))
      rw [hy]
      refine Tt.bif (fun hq => ?_) (fun hq => ?_)
      · exact hmid (2 * r + 2) (.inr rfl) (by omega) (fun c hc hh => by
          rcases hc with rfl | rfl
          · exact Le.of hq
          · exact Le.refl _)
      · exact hmid (2 * r + 1) (.inl rfl) (by omega) (fun c hc hh => by
          rcases hc with rfl | rfl
          · exact Le.refl _
          · exact hq)
    · have hc2 := of_decide_eq_false hc2
      exact hmid (2 * r + 1) (.inl rfl) (by omega) (fun c hc hh => by
        have : c = 2 * r + 1 := by omega
        subst this
        exact Le.refl _)
theorem heap_t (l : List AllocReach) (a b : Nat) (hab : a < b) (hb : b ≤ l.length) (hl : l.length ≤ 1000) : Tt (slices_heapSortCmpFunc l a b) (fun y => PO l y a b ∧ Srt y a b) := by
  unfold slices_heapSortCmpFunc
  obtain ⟨h, hh⟩ : ∃ h, a + h = b := ⟨b - a, by omega⟩
  have w1 : IntKind.wrap .i64 ((b : Int) - (a : Int)) = ((h : Nat) : Int) := wz _ (by omega) (by omega)
  have w2 : IntKind.wrap .i64 ((h : Int) - 1) = ((h - 1 : Nat) : Int) := wz _ (by omega) (by omega)
  have w3 : IntKind.wrap .i64 (Int.tdiv ((h - 1 : Nat) : Int) 2) = (((h - 1) / 2 : Nat) : Int) := wz _ rfl (by omega)
  rw [w1, w2, w3]
  refine Tt.cnt ((h - 1) / 2 + 1) (by omega) (fun k t => t.2 = ((h - 1) / 2 : Nat) - (k : Int) ∧ PO l t.1 a b ∧ Hp t.1 a ((h - 1) / 2 + 1 - k) h) ⟨by simp, PO.refl _ _ _, fun i c h1 h2 h3 => by omega⟩ ?_ ?_
  · rintro k hk ⟨x, p⟩ ⟨h1, h2, h3⟩
    dsimp only at h1 h2 h3
    obtain ⟨q, hq, hqk⟩ : ∃ q : Nat, p = (q : Int) ∧ q + k = (h - 1) / 2 := ⟨(h - 1) / 2 - k, by omega, by omega⟩
    subst hq
    have hxl := h2.len
    dsimp only
    refine Tt.bif (fun _ => ?_) (fun h => by have := of_decide_eq_false h; omega)
    refine Tt.bind (sift_t x q h a (by omega) (by omega) (by rw [show q + 1 = (h - 1) / 2 + 1 - k by omega]; exact h3) (by omega)) fun y ⟨hy1, hy2⟩ => ?_
    refine Tt.som ⟨_, rfl, by dsimp only; rw [w64 (by omega)]; omega, h2.trans (hh ▸ hy1), ?_⟩
    rw [show (h - 1) / 2 + 1 - (k + 1) = q by omega]
    exact hy2
  rintro ⟨x, p⟩ ⟨h1, h2, h3⟩
  dsimp only at h1 h2 h3
  refine ⟨c0 (df (by omega)), ?_⟩
  rw [Nat.sub_self] at h3
  show Tt ((loopM _ NN _).bind _) _
  refine Tt.cnt h (by omega) (fun k t => t.2 = (h : Int) - 1 - (k : Int) ∧ PO l t.1 a b ∧ Hp t.1 a 0 (h - k) ∧ ∀ i j, a ≤ i → i < j → a + (h - k) ≤ j → j < b → Le (gR t.1 i) (gR t.1 j)) ⟨by dsimp only; omega, h2, h3, fun i j _ _ h1 h2 => by omega⟩ ?_ ?_
  · rintro k hk ⟨x, p⟩ ⟨h1, h2, h3, h4⟩
    dsimp only at h1 h2 h3 h4
    obtain ⟨q, hq, hqk⟩ : ∃ q : Nat, p = (q : Int) ∧ q + k + 1 = h := ⟨h - 1 - k, by omega, by omega⟩
    subst hq
    have hxl := h2.len
    have e1 : h - k = q + 1 := by omega
    have e2 : h - (k + 1) = q := by omega
    rw [e1] at h3 h4
    have w4 : IntKind.wrap .i64 ((a : Int) + (q : Int)) = ((a + q : Nat) : Int) := wz _ (by omega) (by omega)
    dsimp only
    refine Tt.bif (fun _ => ?_) (fun h => by have := of_decide_eq_false h; omega)
    rw [w4]
    have i1 : a < x.length := by omega
    have i2 : a + q < x.length := by omega
    refine swp_t (i := a) (j := a + q) (f := fun z => (slices_siftDownCmpFunc z 0 (q : Int) (a : Int)).bind fun y2 => some (Lp.go (y2, IntKind.wrap .i64 ((q : Int) - 1)))) i1 i2 ?_
    have hs : Hp (swp x a (a + q)) a 1 q := by
      intro i c a1 a2 a3
      rw [gt_swp i1 i2, gt_swp i1 i2, if_neg (by omega), if_neg (by omega), if_neg (by omega), if_neg (by omega)]
      exact h3 i c (by omega) a2 (by omega)
    refine Tt.bind (sift_t (swp x a (a + q)) 0 q a (by rw [swp_len]; omega) (by rw [swp_len]; omega) hs (by omega)) fun y ⟨hy1, hy2⟩ => ?_
    have hsw : PO l (swp x a (a + q)) a b := h2.trans (PO.swp i1 i2 (by omega) (by omega))
    refine Tt.som ⟨_, rfl, by dsimp only; rw [w64 (by omega)]; omega, hsw.trans (hy1.mono (Nat.le_refl _) (by omega)), by rw [e2]; exact hy2, ?_⟩
    rw [e2]
    intro i j a1 a2 a3 a4
    -- what stands at i came from a place ahead of the same
    have hi : ∃ i', a ≤ i' ∧ i' < j ∧ gR y i = gR (swp x a (a + q)) i' ∧ (i' < a + q ∨ i' = i) := by
      by_cases hiq : i < a + q
      · obtain ⟨i', b1, b2, b3⟩ := hy1.inn i a1 hiq
        exact ⟨i', b1, by omega, b3, .inl b2⟩
      · exact ⟨i, a1, a2, hy1.out i (by omega), .inr rfl⟩
    obtain ⟨i', b1, b2, b3, b4⟩ := hi
    rw [b3, hy1.out j (by omega), gt_swp i1 i2, gt_swp i1 i2]
    by_cases hjq : j = a + q
    · rw [if_pos hjq, if_neg (by omega)]
      by_cases hia : i' = a
      · rw [if_pos hia]; exact h3.top q (by omega)
      · rw [if_neg hia]
        have := h3.top (i' - a) (by omega)
        rwa [show a + (i' - a) = i' by omega] at this
    · rw [if_neg hjq, if_neg (show ¬ j = a by omega)]
      by_cases hia : i' = a + q
      · rw [if_pos hia]; exact h4 a j (Nat.le_refl _) (by omega) (by omega) a4
      · rw [if_neg hia]
        by_cases hib : i' = a
        · rw [if_pos hib]; exact h4 (a + q) j (by omega) (by omega) (by omega) a4
        · rw [if_neg hib]; exact h4 i' j b1 b2 (by omega) a4
  · rintro ⟨x, p⟩ ⟨h1, h2, h3, h4⟩
    dsimp only at h1 h2 h3 h4
    refine ⟨c0 (df (by omega)), Tt.som ⟨h2, fun i j a1 a2 a3 => h4 i j a1 a2 (by omega) a3⟩⟩

/-! What only moves things. -/
theorem reverse_t (l : List AllocReach) (a b : Nat) (hab : a < b) (hb : b ≤ l.length) (hl : l.length ≤ 1000) : Tt (slices_reverseRangeCmpFunc l a b) (fun y => PO l y a b) := by
  unfold slices_reverseRangeCmpFunc
  rw [wz (b - 1) (by omega) (by omega)]
  refine Tt.whil (fun t => ∃ i j : Nat, t.2.1 = (i : Int) ∧ t.2.2 = (j : Int) ∧ a ≤ i ∧ j < b ∧ i ≤ b ∧ PO l t.1 a b) (fun t => b - t.2.1.toNat) ⟨a, b - 1, rfl, rfl, Nat.le_refl _, by omega, by omega, PO.refl _ _ _⟩ (NN_big (by dsimp only; omega)) ?_
  rintro ⟨x, ii, jj⟩ ⟨i, j, h1, h2, h3, h4, h5, h6⟩
  dsimp only at h1 h2 h6
  subst h1 h2
  have hxl := h6.len
  dsimp only
  refine Tt.bif (fun hc => ?_) (fun hc => Tt.som (.inr (.inl ⟨_, rfl, Tt.som h6⟩)))
  have hc := of_decide_eq_true hc
  refine swp_t (i := i) (j := j) (f := fun z => some (Lp.go (z, IntKind.wrap .i64 ((i : Int) + 1), IntKind.wrap .i64 ((j : Int) - 1)))) (by omega) (by omega) ?_
  refine Tt.som (.inl ⟨_, rfl, ⟨i + 1, j - 1, wz _ (by omega) (by omega), wz _ (by omega) (by omega), by omega, by omega, by omega, h6.trans (PO.swp (by omega) (by omega) (by omega) (by omega))⟩, ?_⟩)
  dsimp only
  rw [wz (i + 1) (by omega) (by omega)]
  omega
theorem order2_t (l : List AllocReach) (a b : Nat) (s : Int) (ha : a < l.length) (hb : b < l.length) : Tt (slices_order2CmpFunc l a b s) (fun z => (z.1 = (a : Int) ∨ z.1 = (b : Int)) ∧ (z.2.1 = (a : Int) ∨ z.2.1 = (b : Int))) := by
  unfold slices_order2CmpFunc
  refine Tt.bnd (idx_gt hb) (Tt.bnd (idx_gt ha) (Tt.bind (cmp_t _ _) fun y _ => ?_))
  exact Tt.bif (fun _ => Tt.som ⟨.inr rfl, .inl rfl⟩) (fun _ => Tt.som ⟨.inl rfl, .inr rfl⟩)
theorem median_t (l : List AllocReach) (lo hi i j k : Nat) (s : Int) (hh : hi ≤ l.length) (h1 : lo ≤ i ∧ i < hi) (h2 : lo ≤ j ∧ j < hi) (h3 : lo ≤ k ∧ k < hi) : Tt (slices_medianCmpFunc l i j k s) (fun z => ∃ m : Nat, z.1 = (m : Int) ∧ lo ≤ m ∧ m < hi) := by
  have ho : ∀ (i j : Nat) (s : Int), lo ≤ i → i < hi → lo ≤ j → j < hi → Tt (slices_order2CmpFunc l i j s) (fun z => (∃ m : Nat, z.1 = (m : Int) ∧ lo ≤ m ∧ m < hi) ∧ (∃ m : Nat, z.2.1 = (m : Int) ∧ lo ≤ m ∧ m < hi)) := by
    intro i j s a1 a2 a3 a4
    refine (order2_t l i j s (by omega) (by omega)).mono fun z ⟨h1, h2⟩ => ⟨?_, ?_⟩
    · rcases h1 with h1 | h1
      · exact ⟨i, h1, a1, a2⟩
      · exact ⟨j, h1, a3, a4⟩
    · rcases h2 with h1 | h1
      · exact ⟨i, h1, a1, a2⟩
      · exact ⟨j, h1, a3, a4⟩
  unfold slices_medianCmpFunc
  refine Tt.bind (ho i j s h1.1 h1.2 h2.1 h2.2) fun y1 ⟨⟨m1, e1, b1, b2⟩, ⟨m2, e2, b3, b4⟩⟩ => ?_
  rw [e1, e2]
  refine Tt.bind (ho m2 k _ b3 b4 h3.1 h3.2) fun y2 ⟨⟨m3, e3, b5, b6⟩, _⟩ => ?_
  rw [e3]
  refine Tt.bind (ho m1 m3 _ b1 b2 b5 b6) fun y3 ⟨_, ⟨m4, e4, b7, b8⟩⟩ => ?_
  exact Tt.som ⟨m4, e4, b7, b8⟩
theorem choose_t (l : List AllocReach) (a b : Nat) (hab : a + 12 < b) (hb : b ≤ l.length) (hl : l.length ≤ 40) : Tt (slices_choosePivotCmpFunc l a b) (fun z => ∃ m : Nat, z.1 = (m : Int) ∧ a ≤ m ∧ m < b) := by
  unfold slices_choosePivotCmpFunc
  obtain ⟨h, hh⟩ : ∃ h, a + h = b := ⟨b - a, by omega⟩
  have w1 : IntKind.wrap .i64 ((b : Int) - (a : Int)) = ((h : Nat) : Int) := wz _ (by omega) (by omega)
  have w2 : IntKind.wrap .i64 (Int.tdiv (h : Int) 4) = ((h / 4 : Nat) : Int) := wz _ rfl (by omega)
  have w3 : IntKind.wrap .i64 (((h / 4 : Nat) : Int) * 1) = ((h / 4 * 1 : Nat) : Int) := wz _ (by omega) (by omega)
  have w4 : IntKind.wrap .i64 (((h / 4 : Nat) : Int) * 2) = ((h / 4 * 2 : Nat) : Int) := wz _ (by omega) (by omega)
  have w5 : IntKind.wrap .i64 (((h / 4 : Nat) : Int) * 3) = ((h / 4 * 3 : Nat) : Int) := wz _ (by omega) (by omega)
  have w6 : ∀ k : Nat, k < 1000 → IntKind.wrap .i64 ((a : Int) + (k : Int)) = ((a + k : Nat) : Int) := fun k hk => wz _ (by omega) (by omega)
  rw [w1, w2, w3, w4, w5, w6 _ (by omega), w6 _ (by omega), w6 _ (by omega)]
  unfold jn
  dsimp only
  refine Tt.bif (fun _ => ?_) (fun h => by have := of_decide_eq_false h; omega)
  refine Tt.bif (fun h => by have := of_decide_eq_true h; omega) (fun _ => ?_)
  refine Tt.bind (median_t l a b _ _ _ 0 hb ⟨by omega, by omega⟩ ⟨by omega, by omega⟩ ⟨by omega, by omega⟩) fun y ⟨m, e, h1, h2⟩ => ?_
  exact Tt.bif (fun _ => Tt.som ⟨m, e, h1, h2⟩) fun _ => Tt.bif (fun _ => Tt.som ⟨m, e, h1, h2⟩) fun _ => Tt.som ⟨m, e, h1, h2⟩
theorem npow : (List.range 41).all (fun k => decide (k < 8) || match slices_nextPowerOfTwo (k : Int) with | some y => decide (1 ≤ y) && decide (y ≤ 2 * (k : Int)) | none => false) = true := by decide +kernel
theorem npow_t (k : Nat) (h1 : 8 ≤ k) (h2 : k ≤ 40) : Tt (slices_nextPowerOfTwo (k : Int)) (fun y => 1 ≤ y ∧ y ≤ 2 * (k : Int)) := by
  have h := List.all_eq_true.1 npow k (by simp; omega)
  simp only [Bool.or_eq_true, decide_eq_true_eq] at h
  rcases h with h | h
  · omega
  · cases hy : slices_nextPowerOfTwo (k : Int) with
    | none => rw [hy] at h; cases h
    | some y =>
      rw [hy] at h
      simp only [Bool.and_eq_true, decide_eq_true_eq] at h
      exact Tt.som h
theorem and_le (x m : Int) (h0 : 0 ≤ m) (h1 : m < 1000) : 0 ≤ bits .and .u64 x m ∧ bits .and .u64 x m ≤ m := by
  unfold bits
  dsimp only
  have hb : (BitVec.ofInt (IntKind.bits .u64) m).toNat = m.toNat := by
    rw [BitVec.toNat_ofInt]
    show (m % ((2 ^ 64 : Nat) : Int)).toNat = _
    rw [Int.emod_eq_of_lt h0 (by omega)]
  have hle : ((BitVec.ofInt (IntKind.bits .u64) x) &&& (BitVec.ofInt (IntKind.bits .u64) m)).toNat ≤ m.toNat := by
    rw [BitVec.toNat_and, hb]
    exact Nat.and_le_right
  generalize ((BitVec.ofInt (IntKind.bits .u64) x) &&& (BitVec.ofInt (IntKind.bits .u64) m)).toNat = v at hle
  have : IntKind.wrap .u64 (v : Int) = (v : Int) := by
    simp only [IntKind.wrap, IntKind.signed, IntKind.bits]
    simp
    omega
  rw [this]
  omega
theorem break_t (l : List AllocReach) (a b : Nat) (hab : a + 12 < b) (hb : b ≤ l.length) (hl : l.length ≤ 40) : Tt (slices_breakPatternsCmpFunc l a b) (fun y => PO l y a b) := by
  unfold slices_breakPatternsCmpFunc
  obtain ⟨h, hh⟩ : ∃ h, a + h = b := ⟨b - a, by omega⟩
  have w1 : IntKind.wrap .i64 ((b : Int) - (a : Int)) = ((h : Nat) : Int) := wz _ (by omega) (by omega)
  have w2 : IntKind.wrap .i64 (Int.tdiv (h : Int) 4) = ((h / 4 : Nat) : Int) := wz _ rfl (by omega)
  have w4 : IntKind.wrap .i64 (((h / 4 : Nat) : Int) * 2) = ((h / 4 * 2 : Nat) : Int) := wz _ (by omega) (by omega)
  have w6 : IntKind.wrap .i64 ((a : Int) + ((h / 4 * 2 : Nat) : Int)) = ((a + h / 4 * 2 : Nat) : Int) := wz _ (by omega) (by omega)
  rw [w1, w2, w4, w6]
  refine Tt.bif (fun _ => ?_) (fun h => by have := of_decide_eq_false h; omega)
  refine Tt.bind (npow_t h (by omega) (by omega)) fun y1 ⟨y1a, y1b⟩ => ?_
  have w7 : IntKind.wrap .i64 (((a + h / 4 * 2 : Nat) : Int) - 1) = ((a + h / 4 * 2 - 1 : Nat) : Int) := wz _ (by omega) (by omega)
  have w8 : IntKind.wrap .i64 (((a + h / 4 * 2 : Nat) : Int) + 1) = ((a + h / 4 * 2 + 1 : Nat) : Int) := wz _ (by omega) (by omega)
  have w9 : IntKind.wrap .u64 (y1 - 1) = y1 - 1 := by
    simp only [IntKind.wrap, IntKind.signed, IntKind.bits]
    simp
    omega
  rw [w7, w8, w9]
  refine Tt.cnt 3 (by omega) (fun k t => t.2.1 = ((a + h / 4 * 2 - 1 + k : Nat) : Int) ∧ PO l t.1 a b) ⟨rfl, PO.refl _ _ _⟩ ?_ ?_
  · rintro k hk ⟨x, p, s⟩ ⟨h1, h2⟩
    dsimp only at h1 h2
    subst h1
    have hxl := h2.len
    dsimp only
    refine Tt.bif (fun _ => ?_) (fun h => by have := of_decide_eq_false h; omega)
    have hx : Tt (slices_xorshift_Next s) (fun _ => True) := by unfold slices_xorshift_Next; exact Tt.som trivial
    refine Tt.bind hx fun y2 _ => ?_
    obtain ⟨v0, v1⟩ := and_le y2.1 (y1 - 1) (by omega) (by omega)
    obtain ⟨v, hv⟩ : ∃ v : Nat, bits .and .u64 y2.1 (y1 - 1) = (v : Int) := ⟨(bits .and .u64 y2.1 (y1 - 1)).toNat, by omega⟩
    rw [hv] at v1 ⊢
    have w10 : IntKind.wrap .i64 (v : Int) = (v : Int) := wz _ rfl (by omega)
    rw [w10]
    have hgo : ∀ o : Nat, o < h → Tt ((idx x (IntKind.wrap .i64 ((a : Int) + (o : Int)))).bind fun u1 => (idx x ((a + h / 4 * 2 - 1 + k : Nat) : Int)).bind fun u2 => (idx x ((a + h / 4 * 2 - 1 + k : Nat) : Int)).bind fun u3 => (idx x ((a + h / 4 * 2 - 1 + k : Nat) : Int)).bind fun u4 => (idx (List.set x (Int.toNat ((a + h / 4 * 2 - 1 + k : Nat) : Int)) u1) (IntKind.wrap .i64 ((a : Int) + (o : Int)))).bind fun u5 => (idx (List.set x (Int.toNat ((a + h / 4 * 2 - 1 + k : Nat) : Int)) u1) (IntKind.wrap .i64 ((a : Int) + (o : Int)))).bind fun u6 => some (Lp.go (List.set (List.set x (Int.toNat ((a + h / 4 * 2 - 1 + k : Nat) : Int)) u1) (Int.toNat (IntKind.wrap .i64 ((a : Int) + (o : Int)))) u2, IntKind.wrap .i64 (((a + h / 4 * 2 - 1 + k : Nat) : Int) + 1), y2.2)) : Option (Lp (List AllocReach × Int × Int) Unit))
        (fun z => ∃ t', z = .go t' ∧ t'.2.1 = ((a + h / 4 * 2 - 1 + (k + 1) : Nat) : Int) ∧ PO l t'.1 a b) := by
      intro o ho
      rw [wz (a + o) (by omega) (by omega)]
      refine swp_t (f := fun z => some (Lp.go (z, IntKind.wrap .i64 (((a + h / 4 * 2 - 1 + k : Nat) : Int) + 1), y2.2))) (by omega) (by omega) ?_
      exact Tt.som ⟨_, rfl, wz _ (by omega) (by omega), h2.trans (PO.swp (by omega) (by omega) (by omega) (by omega))⟩
    unfold jn
    dsimp only
    refine Tt.bif (fun hc => ?_) (fun hc => ?_)
    · have hc := of_decide_eq_true hc
      have w11 : IntKind.wrap .i64 ((v : Int) - (h : Int)) = ((v - h : Nat) : Int) := wz _ (by omega) (by omega)
      rw [w11]
      exact hgo (v - h) (by omega)
    · have hc := of_decide_eq_false hc
      exact hgo v (by omega)
  · rintro ⟨x, p, s⟩ ⟨h1, h2⟩
    dsimp only at h1 h2
    exact ⟨c0 (df (by omega)), Tt.som h2⟩
theorem partial_t (l : List AllocReach) (a b : Nat) (hab : a + 12 < b) (hb : b ≤ l.length) (hl : l.length ≤ 40) : Tt (slices_partialInsertionSortCmpFunc l a b) (fun z => z.2 = l ∧ (z.1 = true → Srt l a b)) := by
  unfold slices_partialInsertionSortCmpFunc
  rw [wk1 (by omega), wz (b - a) (by omega) (by omega)]
  refine Tt.whil (fun t => t = (((a + 1 : Nat) : Int), (0 : Int))) (fun _ => 1) rfl (NN_big (by omega)) ?_
  rintro _ rfl
  refine Tt.bif (fun _ => ?_) (fun h => by cases h)
  unfold jn
  dsimp only
  refine Tt.whil (fun t => ∃ i : Nat, t = (i : Int) ∧ a + 1 ≤ i ∧ i ≤ b ∧ Srt l a i) (fun t => b - t.toNat) ⟨a + 1, rfl, Nat.le_refl _, by omega, fun i j h1 h2 h3 => by omega⟩ (NN_big (by omega)) ?_
  rintro _ ⟨i, rfl, h1, h2, h3⟩
  refine Tt.bif (fun hc => ?_) (fun hc => ?_)
  · have hc := of_decide_eq_true hc
    rw [wkm (by omega) (by omega)]
    refine Tt.bnd (idx_gt (by omega)) (Tt.bnd (idx_gt (by omega)) (Tt.bind (cmp_t _ _) fun y hy => ?_))
    rw [hy]
    refine Tt.bif (fun hq => ?_) (fun hq => ?_)
    · have hq : ltb (gR l i) (gR l (i - 1)) = false := by simpa using hq
      refine Tt.som (.inl ⟨_, rfl, ⟨i + 1, wk1 (by omega), by omega, by omega, fun p q b1 b2 b3 => ?_⟩, by rw [wk1 (by omega)]; omega⟩)
      by_cases hqi : q = i
      · subst hqi
        by_cases hp : p = q - 1
        · rw [hp]; exact hq
        · exact (h3 p (q - 1) b1 (by omega) (by omega)).trans hq
      · exact h3 p q b1 b2 (by omega)
    · refine Tt.som (.inr (.inl ⟨_, rfl, ?_⟩))
      dsimp only [Lp.thn]
      refine Tt.bif (fun h => by have : (i : Int) = (b : Int) := by simpa using h
                                 omega) (fun _ => ?_)
      refine Tt.bif (fun _ => Tt.som (.inr (.inr ⟨_, rfl, Tt.som ⟨rfl, by nofun⟩⟩))) (fun h => by have := of_decide_eq_false h; omega)
  · have hc := of_decide_eq_false hc
    refine Tt.som (.inr (.inl ⟨_, rfl, ?_⟩))
    dsimp only [Lp.thn]
    have hib : i = b := by omega
    subst hib
    refine Tt.bif (fun _ => Tt.som (.inr (.inr ⟨_, rfl, Tt.som ⟨rfl, fun _ => h3⟩⟩))) (fun h => by simp at h)
end Go.Proofs.YteoihjfnojgnnaaGreat
