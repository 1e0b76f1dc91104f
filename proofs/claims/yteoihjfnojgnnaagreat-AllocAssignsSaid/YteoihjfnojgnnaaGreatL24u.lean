/- Plain laws on the models of sorting: a list is cut by one of its elements; all of it. No program is in sight here. -/
import Derived.Test.YteoihjfnojgnnaaGreatL24t
set_option linter.unusedVariables false
namespace Go.Proofs.YteoihjfnojgnnaaGreat

theorem Tt.jn1 {B A : Type} {f : (B → Option A) → Option A} {k : B → Option A} {Q : A → Prop} (P : B → Prop) (hf : ∀ kk : B → Option A, (∀ a, P a → Tt (kk a) Q) → Tt (f kk) Q) (hk : ∀ a, P a → Tt (k a) Q) : Tt (jn f k) Q := hf k hk
theorem Tt.jn2 {B C A : Type} {f : (B → C → Option A) → Option A} {k : B → C → Option A} {Q : A → Prop} (P : B → C → Prop) (hf : ∀ kk : B → C → Option A, (∀ a b, P a b → Tt (kk a b) Q) → Tt (f kk) Q) (hk : ∀ a b, P a b → Tt (k a b) Q) : Tt (jn f k) Q := hf k hk
theorem Tt.jn3 {B C D A : Type} {f : (B → C → D → Option A) → Option A} {k : B → C → D → Option A} {Q : A → Prop} (P : B → C → D → Prop) (hf : ∀ kk : B → C → D → Option A, (∀ a b c, P a b c → Tt (kk a b c) Q) → Tt (f kk) Q) (hk : ∀ a b c, P a b c → Tt (k a b c) Q) : Tt (jn f k) Q := hf k hk
theorem scanI {A : Type} {x : List AllocReach} {a i j : Nat} {K : Int → Option A} {g : Unit → Option A} {Q : A → Prop} {body : Int → Option (Lp Int Unit)} {s : Int} (hsi : s = (i : Int)) (hij : i ≤ j + 1) (hj : j < x.length) (ha : a < x.length) (hx : x.length ≤ 1000)
    (hs : ∀ k : Nat, body (k : Int) = (bif decide ((k : Int) ≤ (j : Int)) then ((idx x (k : Int)).bind fun u7 => (idx x (a : Int)).bind fun u8 => (alloc_Assign_2 u7 u8).bind fun y1 => bif decide (y1 < 0) then (some (Lp.go (IntKind.wrap .i64 ((k : Int) + 1)))) else (some (Lp.brk (k : Int)))) else (some (Lp.brk (k : Int)))))
    (hK : ∀ k : Nat, i ≤ k → k ≤ j + 1 → (∀ q, i ≤ q → q < k → ltb (gR x q) (gR x a) = true) → (k ≤ j → ltb (gR x k) (gR x a) = false) → Tt (K (k : Int)) Q) : Tt ((loopM body NN s).bind fun o => o.thn K g) Q := by
  subst hsi
  refine Tt.whil (fun t => ∃ k : Nat, t = (k : Int) ∧ i ≤ k ∧ k ≤ j + 1 ∧ ∀ q, i ≤ q → q < k → ltb (gR x q) (gR x a) = true) (fun t => j + 1 - t.toNat) ⟨i, rfl, Nat.le_refl _, hij, fun q h1 h2 => by omega⟩ (NN_big (by omega)) ?_
  rintro _ ⟨k, rfl, h1, h2, h3⟩
  rw [hs]
  refine Tt.bif (fun hc => ?_) (fun hc => ?_)
  · have hc := of_decide_eq_true hc
    refine Tt.bnd (idx_gt (by omega)) (Tt.bnd (idx_gt ha) (Tt.bind (cmp_t _ _) fun y hy => ?_))
    rw [hy]
    refine Tt.bif (fun hq => ?_) (fun hq => ?_)
    · refine Tt.som (.inl ⟨_, rfl, ⟨k + 1, wk1 (by omega), by omega, by omega, fun q q1 q2 => ?_⟩, by rw [wk1 (by omega)]; omega⟩)
      by_cases hqk : q = k
      · rw [hqk]; exact hq
      · exact h3 q q1 (by omega)
    · exact Tt.som (.inr (.inl ⟨_, rfl, hK k h1 h2 h3 fun _ => hq⟩))
  · have hc := of_decide_eq_false hc
    exact Tt.som (.inr (.inl ⟨_, rfl, hK k h1 h2 h3 fun h => by omega⟩))
theorem scanJ {A : Type} {x : List AllocReach} {a i j : Nat} {K : Int → Option A} {g : Unit → Option A} {Q : A → Prop} {body : Int → Option (Lp Int Unit)} {s : Int} (hsj : s = (j : Int)) (hi : 1 ≤ i) (hij : i ≤ j + 1) (hj : j < x.length) (ha : a < x.length) (hx : x.length ≤ 1000)
    (hs : ∀ k : Nat, body (k : Int) = (bif decide ((i : Int) ≤ (k : Int)) then ((idx x (k : Int)).bind fun u7 => (idx x (a : Int)).bind fun u8 => (alloc_Assign_2 u7 u8).bind fun y1 => bif !(decide (y1 < 0)) then (some (Lp.go (IntKind.wrap .i64 ((k : Int) - 1)))) else (some (Lp.brk (k : Int)))) else (some (Lp.brk (k : Int)))))
    (hK : ∀ k : Nat, i ≤ k + 1 → k ≤ j → (∀ q, k < q → q ≤ j → ltb (gR x q) (gR x a) = false) → (i ≤ k → ltb (gR x k) (gR x a) = true) → Tt (K (k : Int)) Q) : Tt ((loopM body NN s).bind fun o => o.thn K g) Q := by
  subst hsj
  refine Tt.whil (fun t => ∃ k : Nat, t = (k : Int) ∧ i ≤ k + 1 ∧ k ≤ j ∧ ∀ q, k < q → q ≤ j → ltb (gR x q) (gR x a) = false) (fun t => t.toNat) ⟨j, rfl, hij, Nat.le_refl _, fun q h1 h2 => by omega⟩ (NN_big (by omega)) ?_
  rintro _ ⟨k, rfl, h1, h2, h3⟩
  rw [hs]
  refine Tt.bif (fun hc => ?_) (fun hc => ?_)
  · have hc := of_decide_eq_true hc
    refine Tt.bnd (idx_gt (by omega)) (Tt.bnd (idx_gt ha) (Tt.bind (cmp_t _ _) fun y hy => ?_))
    rw [hy]
    refine Tt.bif (fun hq => ?_) (fun hq => ?_)
    · have hq : ltb (gR x k) (gR x a) = false := by simpa using hq
      refine Tt.som (.inl ⟨_, rfl, ⟨k - 1, wkm (by omega) (by omega), by omega, by omega, fun q q1 q2 => ?_⟩, by rw [wkm (by omega) (by omega)]; omega⟩)
      by_cases hqk : q = k
      · rw [hqk]; exact hq
      · exact h3 q (by omega) q2
    · exact Tt.som (.inr (.inl ⟨_, rfl, hK k h1 h2 h3 fun _ => by simpa using hq⟩))
  · have hc := of_decide_eq_false hc
    exact Tt.som (.inr (.inl ⟨_, rfl, hK k h1 h2 h3 fun h => by omega⟩))

def PartP (l : List AllocReach) (a b : Nat) (z : Int × Bool × List AllocReach) : Prop := ∃ m : Nat, z.1 = (m : Int) ∧ a ≤ m ∧ m < b ∧ PO l z.2.2 a b ∧ (∀ i, a ≤ i → i < m → Le (gR z.2.2 i) (gR z.2.2 m)) ∧ (∀ i, m < i → i < b → Le (gR z.2.2 m) (gR z.2.2 i))
theorem part_end {l x : List AllocReach} {a b j : Nat} {f : Bool} (hp : PO l x a b) (haj : a ≤ j) (hjb : j < b) (hb : b ≤ x.length) (h1 : ∀ q, a < q → q ≤ j → ltb (gR x q) (gR x a) = true) (h2 : ∀ q, j < q → q < b → ltb (gR x q) (gR x a) = false) : PartP l a b ((j : Int), f, swp x j a) := by
  have i1 : j < x.length := by omega
  have i2 : a < x.length := by omega
  refine ⟨j, rfl, haj, hjb, hp.trans (PO.swp i1 i2 ⟨haj, hjb⟩ ⟨Nat.le_refl _, by omega⟩), fun i a1 a2 => ?_, fun i a1 a2 => ?_⟩
  · dsimp only
    have e : gR (swp x j a) j = gR x a := by
      rw [gt_swp i1 i2, if_neg (by omega), if_pos rfl]
    rw [e, gt_swp i1 i2]
    by_cases hia : i = a
    · rw [if_pos hia]; exact Le.of (h1 j (by omega) (Nat.le_refl _))
    · rw [if_neg hia, if_neg (by omega)]; exact Le.of (h1 i (by omega) (by omega))
  · dsimp only
    have e : gR (swp x j a) j = gR x a := by
      rw [gt_swp i1 i2]
      by_cases hja : j = a
      · rw [if_pos hja, hja]
      · rw [if_neg hja, if_pos rfl]
    rw [e, gt_swp i1 i2, if_neg (by omega), if_neg (by omega)]
    exact h2 i a1 a2
theorem part_t (l : List AllocReach) (a b pv : Nat) (h1 : a ≤ pv) (h2 : pv < b) (hab : a + 1 < b) (hb : b ≤ l.length) (hl : l.length ≤ 1000) : Tt (slices_partitionCmpFunc l a b pv) (PartP l a b) := by
  unfold slices_partitionCmpFunc
  have i1 : a < l.length := by omega
  have i2 : pv < l.length := by omega
  refine Tt.bnd (idx_gt i2) (Tt.bnd (idx_gt i1) (Tt.bnd (idx_gt i1) (Tt.bnd (idx_gt i1) ?_)))
  refine Tt.bnd (idx_gt (by simpa using i2)) (Tt.bnd (idx_gt (by simpa using i2)) ?_)
  have e : ((l.set (Int.toNat (a : Int)) (gR l pv)).set (Int.toNat (pv : Int)) (gR l a)) = swp l a pv := rfl
  rw [e]
  have hp0 : PO l (swp l a pv) a b := PO.swp i1 i2 (by omega) (by omega)
  generalize swp l a pv = z at hp0
  have hzl := hp0.len
  have w1 : IntKind.wrap .i64 ((b : Int) - 1) = ((b - 1 : Nat) : Int) := wz _ (by omega) (by omega)
  rw [w1, wk1 (by omega)]
  unfold jn
  refine scanI (x := z) (a := a) (i := a + 1) (j := b - 1) rfl (by omega) (by omega) (by omega) (by omega) (fun _ => rfl) fun i ia ib hi1 hi2 => ?_
  try dsimp only
  refine scanJ (x := z) (a := a) (i := i) (j := b - 1) rfl (by omega) (by omega) (by omega) (by omega) (by omega) (fun _ => rfl) fun j ja jb hj1 hj2 => ?_
  try dsimp only
  refine Tt.bif (fun hc => ?_) (fun hc => ?_)
  · have hc := of_decide_eq_true hc
    refine swp_t (i := j) (j := a) (f := fun y => some ((j : Int), true, y)) (by omega) (by omega) (Tt.som ?_)
    exact part_end hp0 (by omega) (by omega) (by omega) (fun q q1 q2 => hi1 q (by omega) (by omega)) (fun q q1 q2 => hj1 q q1 (by omega))
  · have hc := of_decide_eq_false hc
    have hij : i < j := by
      rcases Nat.lt_or_ge i j with h | h
      · exact h
      · have : i = j := by omega
        subst this
        have e1 := hi2 (by omega)
        have e2 := hj2 (by omega)
        rw [e1] at e2
        cases e2
    have k1 : i < z.length := by omega
    have k2 : j < z.length := by omega
    refine Tt.bnd (idx_gt k2) (Tt.bnd (idx_gt k1) (Tt.bnd (idx_gt k1) (Tt.bnd (idx_gt k1) ?_)))
    refine Tt.bnd (idx_gt (by simpa using k2)) (Tt.bnd (idx_gt (by simpa using k2)) ?_)
    have e : ((z.set (Int.toNat (i : Int)) (gR z j)).set (Int.toNat (j : Int)) (gR z i)) = swp z i j := rfl
    rw [e]
    have hp1 : PO l (swp z i j) a b := hp0.trans (PO.swp k1 k2 (by omega) (by omega))
    have f1 : ∀ q, a < q → q < i + 1 → ltb (gR (swp z i j) q) (gR (swp z i j) a) = true := by
      intro q q1 q2
      rw [gt_swp k1 k2, gt_swp k1 k2, if_neg (show ¬ a = j by omega), if_neg (show ¬ a = i by omega), if_neg (show ¬ q = j by omega)]
      by_cases hqi : q = i
      · rw [if_pos hqi]; exact hj2 (by omega)
      · rw [if_neg hqi]; exact hi1 q (by omega) (by omega)
    have f2 : ∀ q, j - 1 < q → q < b → ltb (gR (swp z i j) q) (gR (swp z i j) a) = false := by
      intro q q1 q2
      rw [gt_swp k1 k2, gt_swp k1 k2, if_neg (show ¬ a = j by omega), if_neg (show ¬ a = i by omega)]
      by_cases hqj : q = j
      · rw [if_pos hqj]; exact hi2 (by omega)
      · rw [if_neg hqj, if_neg (by omega)]; exact hj1 q (by omega) (by omega)
    rw [wk1 (by omega), wkm (by omega) (by omega)]
    generalize swp z i j = x0 at hp1 f1 f2
    refine Tt.whil (fun t => ∃ i j : Nat, t.2.1 = (i : Int) ∧ t.2.2 = (j : Int) ∧ a < i ∧ i ≤ j + 1 ∧ j < b ∧ PO l t.1 a b ∧ (∀ q, a < q → q < i → ltb (gR t.1 q) (gR t.1 a) = true) ∧ (∀ q, j < q → q < b → ltb (gR t.1 q) (gR t.1 a) = false)) (fun t => b - t.2.1.toNat)
      ⟨i + 1, j - 1, rfl, rfl, by omega, by omega, by omega, hp1, f1, f2⟩ (NN_big (by dsimp only; omega)) ?_
    rintro ⟨x, ii, jj⟩ ⟨i, j, g1, g2, g3, g4, g5, g6, g7, g8⟩
    dsimp only at g1 g2 g6 g7 g8
    subst g1 g2
    have hxl := g6.len
    try dsimp only
    refine scanI (x := x) (a := a) (i := i) (j := j) rfl g4 (by omega) (by omega) (by omega) (fun _ => rfl) fun i' ia ib hi1 hi2 => ?_
    try dsimp only
    refine scanJ (x := x) (a := a) (i := i') (j := j) rfl (by omega) (by omega) (by omega) (by omega) (by omega) (fun _ => rfl) fun j' ja jb hj1 hj2 => ?_
    try dsimp only
    have m1 : ∀ q, a < q → q < i' → ltb (gR x q) (gR x a) = true := fun q q1 q2 => by
      by_cases h : q < i
      · exact g7 q q1 h
      · exact hi1 q (by omega) q2
    have m2 : ∀ q, j' < q → q < b → ltb (gR x q) (gR x a) = false := fun q q1 q2 => by
      by_cases h : j < q
      · exact g8 q h q2
      · exact hj1 q q1 (by omega)
    refine Tt.bif (fun hc => ?_) (fun hc => ?_)
    · have hc := of_decide_eq_true hc
      refine Tt.som (.inr (.inl ⟨_, rfl, ?_⟩))
      dsimp only [Lp.thn]
      refine swp_t (i := j') (j := a) (f := fun y => some ((j' : Int), false, y)) (by omega) (by omega) (Tt.som ?_)
      exact part_end g6 (by omega) (by omega) (by omega) (fun q q1 q2 => m1 q q1 (by omega)) m2
    · have hc := of_decide_eq_false hc
      have hij : i' < j' := by
        rcases Nat.lt_or_ge i' j' with h | h
        · exact h
        · have : i' = j' := by omega
          subst this
          have e1 := hi2 (by omega)
          have e2 := hj2 (by omega)
          rw [e1] at e2
          cases e2
      have k1 : i' < x.length := by omega
      have k2 : j' < x.length := by omega
      refine swp_t (i := i') (j := j') (f := fun y => some (Lp.go (y, IntKind.wrap .i64 ((i' : Int) + 1), IntKind.wrap .i64 ((j' : Int) - 1)))) k1 k2 (Tt.som (.inl ⟨_, rfl, ⟨i' + 1, j' - 1, wk1 (by omega), wkm (by omega) (by omega), by omega, by omega, by omega, g6.trans (PO.swp k1 k2 (by omega) (by omega)), fun q q1 q2 => ?_, fun q q1 q2 => ?_⟩, ?_⟩))
      · dsimp only
        rw [gt_swp k1 k2, gt_swp k1 k2, if_neg (show ¬ a = j' by omega), if_neg (show ¬ a = i' by omega), if_neg (show ¬ q = j' by omega)]
        by_cases hqi : q = i'
        · rw [if_pos hqi]; exact hj2 (by omega)
        · rw [if_neg hqi]; exact m1 q q1 (by omega)
      · dsimp only
        rw [gt_swp k1 k2, gt_swp k1 k2, if_neg (show ¬ a = j' by omega), if_neg (show ¬ a = i' by omega)]
        by_cases hqj : q = j'
        · rw [if_pos hqj]; exact hi2 (by omega)
        · rw [if_neg hqj, if_neg (by omega)]; exact m2 q (by omega) q2
      · dsimp only
        rw [wk1 (by omega)]
        omega

/-! All of it. -/
def SX (x : List AllocReach) (a b a' b' : Nat) : Prop := ∀ i j, a ≤ i → i < j → j < b → (i < a' ∨ b' ≤ j) → Le (gR x i) (gR x j)
def LL (x : List AllocReach) (a b : Nat) : Prop := ∀ i j, i < a → a ≤ j → j < b → Le (gR x i) (gR x j)
theorem SX.po {x y : List AllocReach} {a b a' b' : Nat} (h : SX x a b a' b') (ha : a ≤ a') (hb : b' ≤ b) (hp : PO x y a' b') : SX y a b a' b' := by
  intro i j h1 h2 h3 h4
  have zone : ∀ i, ∃ i', gR y i = gR x i' ∧ ((i < a' ∨ b' ≤ i) → i' = i) ∧ (¬ (i < a' ∨ b' ≤ i) → a' ≤ i' ∧ i' < b') := by
    intro i
    by_cases hi : i < a' ∨ b' ≤ i
    · exact ⟨i, hp.out i hi, fun _ => rfl, fun h => absurd hi h⟩
    · obtain ⟨i', k1, k2, k3⟩ := hp.inn i (by omega) (by omega)
      exact ⟨i', k3, fun h => absurd h hi, fun _ => ⟨k1, k2⟩⟩
  obtain ⟨i', e1, z1, z2⟩ := zone i
  obtain ⟨j', e2, z3, z4⟩ := zone j
  rw [e1, e2]
  by_cases hi : i < a' ∨ b' ≤ i
  · rw [z1 hi]
    by_cases hj : j < a' ∨ b' ≤ j
    · rw [z3 hj]; exact h i j h1 h2 h3 h4
    · have := z4 hj
      exact h i j' h1 (by omega) (by omega) (.inl (by omega))
  · have t1 := z2 hi
    have hj : b' ≤ j := by omega
    rw [z3 (.inr hj)]
    exact h i' j (by omega) (by omega) h3 (.inr hj)
theorem LL.po {x y : List AllocReach} {a b : Nat} (h : LL x a b) (hp : PO x y a b) : LL y a b := by
  intro i j h1 h2 h3
  obtain ⟨j', k1, k2, k3⟩ := hp.inn j h2 h3
  rw [hp.out i (.inl h1), k3]
  exact h i j' h1 k1 k2
theorem srt_of {x y : List AllocReach} {a b a' b' : Nat} (h : SX x a b a' b') (ha : a ≤ a') (hb : b' ≤ b) (hp : PO x y a' b') (hs : Srt y a' b') : Srt y a b := by
  intro i j h1 h2 h3
  by_cases hz : i < a' ∨ b' ≤ j
  · exact h.po ha hb hp i j h1 h2 h3 hz
  · exact hs i j (by omega) h2 (by omega)
def keyR (x : AllocReach) : Int × Int × Int := (x.from_, x.to, x.r)
theorem le_lt {x y : AllocReach} (h : Le x y) (hne : keyR x ≠ keyR y) : ltb x y = true := by
  have h := ltb_f h
  unfold ltb
  apply decide_eq_true
  have : ¬ (x.from_ = y.from_ ∧ x.to = y.to ∧ x.r = y.r) := fun ⟨a, b, c⟩ => hne (by unfold keyR; rw [a, b, c])
  omega
theorem pdq_t : ∀ (n : Nat) (l : List AllocReach) (a b : Nat) (lim : Int), b - a < n → a ≤ b → b ≤ l.length → l.length ≤ 40 → (l.map keyR).Nodup → LL l a b → Tt ((rec1 n).slices_pdqsortCmpFunc l a b lim) (fun y => PO l y a b ∧ Srt y a b) := by
  intro n
  induction n with
  | zero => intro l a b lim h; omega
  | succ n ih =>
    intro l a b lim hn hab hb hl hnd hL
    show Tt (slices_pdqsortCmpFunc_b (rec1 n) l a b lim) _
    unfold slices_pdqsortCmpFunc_b
    refine Tt.whil (fun t => ∃ a' b' : Nat, t.2.1 = (a' : Int) ∧ t.2.2.1 = (b' : Int) ∧ a ≤ a' ∧ a' ≤ b' ∧ b' ≤ b ∧ PO l t.1 a b ∧ SX t.1 a b a' b' ∧ LL t.1 a' b') (fun t => t.2.2.1.toNat - t.2.1.toNat)
      ⟨a, b, rfl, rfl, Nat.le_refl _, hab, Nat.le_refl _, PO.refl _ _ _, fun i j h1 h2 h3 h4 => by omega, hL⟩ (NN_big (by dsimp only; omega)) ?_
    rintro ⟨x, aa, bb, lm, x5, x6⟩ ⟨a', b', h1, h2, h3, h4, h5, h6, h7, h8⟩
    dsimp only at h1 h2 h6 h7 h8
    subst h1 h2
    have hxl := h6.len
    have w1 : IntKind.wrap .i64 ((b' : Int) - (a' : Int)) = ((b' - a' : Nat) : Int) := wz _ (by omega) (by omega)
    dsimp only
    rw [w1]
    have hret : ∀ y, PO x y a' b' → Srt y a' b' → PO l y a b ∧ Srt y a b := fun y hy1 hy2 => ⟨h6.trans (hy1.mono h3 h5), srt_of h7 h3 h5 hy1 hy2⟩
    refine Tt.bif (fun hc => ?_) (fun hc => ?_)
    · refine Tt.bind (insert_t x a' b' h4 (by omega) (by omega)) fun y ⟨hy1, hy2⟩ => ?_
      exact Tt.som (.inr (.inr ⟨_, rfl, Tt.som (hret y hy1 hy2)⟩))
    have hc := of_decide_eq_false hc
    refine Tt.bif (fun _ => ?_) (fun _ => ?_)
    · refine Tt.bind (heap_t x a' b' (by omega) (by omega) (by omega)) fun y ⟨hy1, hy2⟩ => ?_
      exact Tt.som (.inr (.inr ⟨_, rfl, Tt.som (hret y hy1 hy2)⟩))
    -- the cut
    have htail : ∀ (x12 : List AllocReach) (pv : Nat) (lm : Int), PO x x12 a' b' → a' ≤ pv → pv < b' →
        Tt ((slices_partitionCmpFunc x12 (a' : Int) (b' : Int) (pv : Int)).bind fun y9 => bif decide ((IntKind.wrap .i64 (y9.1 - (a' : Int))) < (IntKind.wrap .i64 ((b' : Int) - y9.1))) then (((rec1 n).slices_pdqsortCmpFunc y9.2.2 (a' : Int) y9.1 lm).bind fun y10 => some (Lp.go (y10, IntKind.wrap .i64 (y9.1 + 1), (b' : Int), lm, decide ((IntKind.wrap .i64 (Int.tdiv ((b' - a' : Nat) : Int) 8)) ≤ (IntKind.wrap .i64 (y9.1 - (a' : Int)))), y9.2.1))) else (((rec1 n).slices_pdqsortCmpFunc y9.2.2 (IntKind.wrap .i64 (y9.1 + 1)) (b' : Int) lm).bind fun y11 => some (Lp.go (y11, (a' : Int), y9.1, lm, decide ((IntKind.wrap .i64 (Int.tdiv ((b' - a' : Nat) : Int) 8)) ≤ (IntKind.wrap .i64 ((b' : Int) - y9.1))), y9.2.1))) : Option (Lp (List AllocReach × Int × Int × Int × Bool × Bool) (List AllocReach)))
        (fun z => (∃ t', z = .go t' ∧ (∃ a' b' : Nat, t'.2.1 = (a' : Int) ∧ t'.2.2.1 = (b' : Int) ∧ a ≤ a' ∧ a' ≤ b' ∧ b' ≤ b ∧ PO l t'.1 a b ∧ SX t'.1 a b a' b' ∧ LL t'.1 a' b') ∧ t'.2.2.1.toNat - t'.2.1.toNat < (b' : Int).toNat - (a' : Int).toNat) ∨ (∃ t', z = .brk t' ∧ Tt (none : Option (List AllocReach)) fun y => PO l y a b ∧ Srt y a b) ∨ ∃ y, z = .ret y ∧ Tt (some y) fun y => PO l y a b ∧ Srt y a b) := by
      intro x12 pv lm hp hpv1 hpv2
      have hpl := hp.len
      refine Tt.bind (part_t x12 a' b' pv hpv1 hpv2 (by omega) (by omega) (by omega)) fun y9 ⟨m, e, m1, m2, m3, m4, m5⟩ => ?_
      obtain ⟨y9a, y9b, z⟩ := y9
      dsimp only at e m3 m4 m5
      subst e
      have hpz : PO x z a' b' := hp.trans m3
      have hzl := hpz.len
      have hlz : PO l z a b := h6.trans (hpz.mono h3 h5)
      have hndz : (z.map keyR).Nodup := (hlz.perm.map keyR).nodup_iff.2 hnd
      have hSz := h7.po h3 h5 hpz
      have hLz := h8.po hpz
      dsimp only
      rw [wk1 (by omega)]
      refine Tt.bif (fun _ => ?_) (fun _ => ?_)
      · refine Tt.bind (ih z a' m lm (by omega) m1 (by omega) (by omega) hndz (fun i j k1 k2 k3 => hLz i j k1 k2 (by omega))) fun w ⟨hw1, hw2⟩ => ?_
        have hxw : PO x w a' b' := hpz.trans (hw1.mono (Nat.le_refl _) (by omega))
        have hSw := h7.po h3 h5 hxw
        have hLw := h8.po hxw
        have hz1 : ∀ i, a' ≤ i → i ≤ m → ∀ j, i < j → m ≤ j → j < b' → Le (gR w i) (gR w j) := by
          intro i k1 k2 j k3 k4 k5
          rw [hw1.out j (.inr k4)]
          have himp : Le (gR w i) (gR z m) := by
            by_cases him : i = m
            · rw [him, hw1.out m (.inr (Nat.le_refl _))]; exact Le.refl _
            · obtain ⟨i', j1, j2, j3⟩ := hw1.inn i k1 (by omega)
              rw [j3]; exact m4 i' j1 j2
          by_cases hjm : j = m
          · rw [hjm]; exact himp
          · exact himp.trans (m5 j (by omega) k5)
        refine Tt.som (.inl ⟨_, rfl, ⟨m + 1, b', rfl, rfl, by omega, by omega, h5, h6.trans (hxw.mono h3 h5), fun i j k1 k2 k3 k4 => ?_, fun i j k1 k2 k3 => ?_⟩, by dsimp only; omega⟩)
        · dsimp only
          by_cases hz : i < a' ∨ b' ≤ j
          · exact hSw i j k1 k2 k3 hz
          · by_cases hjm : j < m
            · exact hw2 i j (by omega) k2 hjm
            · exact hz1 i (by omega) (by omega) j k2 (by omega) (by omega)
        · dsimp only
          by_cases hz : i < a'
          · exact hLw i j hz (by omega) k3
          · exact hz1 i (by omega) (by omega) j (by omega) (by omega) k3
      · have hLr : LL z (m + 1) b' := by
          intro i j k1 k2 k3
          by_cases hz : i < a'
          · exact hLz i j hz (by omega) k3
          · by_cases him : i = m
            · rw [him]; exact m5 j (by omega) k3
            · exact (m4 i (by omega) (by omega)).trans (m5 j (by omega) k3)
        refine Tt.bind (ih z (m + 1) b' lm (by omega) (by omega) (by omega) (by omega) hndz hLr) fun w ⟨hw1, hw2⟩ => ?_
        have hxw : PO x w a' b' := hpz.trans (hw1.mono (by omega) (Nat.le_refl _))
        have hSw := h7.po h3 h5 hxw
        have hLw := h8.po hxw
        refine Tt.som (.inl ⟨_, rfl, ⟨a', m, rfl, rfl, h3, m1, by omega, h6.trans (hxw.mono h3 h5), fun i j k1 k2 k3 k4 => ?_, fun i j k1 k2 k3 => hLw i j k1 k2 (by omega)⟩, by dsimp only; omega⟩)
        dsimp only
        by_cases hz : i < a' ∨ b' ≤ j
        · exact hSw i j k1 k2 k3 hz
        · have hmj : m ≤ j := by omega
          by_cases him : m < i
          · exact hw2 i j (by omega) k2 (by omega)
          · rw [hw1.out i (.inl (by omega))]
            have hj' : ∃ j', gR w j = gR z j' ∧ ((j' = m ∧ j = m) ∨ (m < j' ∧ j' < b')) := by
              by_cases hjm : j = m
              · exact ⟨m, by rw [hjm]; exact hw1.out m (.inl (by omega)), .inl ⟨rfl, hjm⟩⟩
              · obtain ⟨j', q1, q2, q3⟩ := hw1.inn j (by omega) (by omega)
                exact ⟨j', q3, .inr ⟨by omega, q2⟩⟩
            obtain ⟨j', e, hj'⟩ := hj'
            rw [e]
            rcases hj' with ⟨rfl, rfl⟩ | ⟨q1, q2⟩
            · exact m4 i (by omega) (by omega)
            · by_cases him2 : i = m
              · rw [him2]; exact m5 j' q1 q2
              · exact (m4 i (by omega) (by omega)).trans (m5 j' q1 q2)
    -- what is ahead of the cut
    have hne : ∀ (x12 : List AllocReach) (pv : Nat), PO x x12 a' b' → a' ≤ pv → pv < b' → 0 < a' → ltb (gR x12 (a' - 1)) (gR x12 pv) = true := by
      intro x12 pv hp k1 k2 k3
      have hL12 := h8.po hp
      have hpl := hp.len
      refine le_lt (hL12 (a' - 1) pv (by omega) k1 k2) fun he => ?_
      have hnd12 : (x12.map keyR).Nodup := ((h6.trans (hp.mono h3 h5)).perm.map keyR).nodup_iff.2 hnd
      rw [gt_at (by omega), gt_at (by omega)] at he
      have := List.pairwise_iff_getElem.1 hnd12 (a' - 1) pv (by simp; omega) (by simp; omega) (by omega)
      exact this (by simpa using he)
    have hcut : ∀ (x12 : List AllocReach) (pv : Nat) (lm : Int), PO x x12 a' b' → a' ≤ pv → pv < b' → Tt (bif decide ((0 : Int) < (a' : Int)) then ((idx x12 (IntKind.wrap .i64 ((a' : Int) - 1))).bind fun u1 => (idx x12 (pv : Int)).bind fun u2 => (alloc_Assign_2 u1 u2).bind fun y7 => bif !(decide (y7 < 0)) then none else ((slices_partitionCmpFunc x12 (a' : Int) (b' : Int) (pv : Int)).bind fun y9 => bif decide ((IntKind.wrap .i64 (y9.1 - (a' : Int))) < (IntKind.wrap .i64 ((b' : Int) - y9.1))) then (((rec1 n).slices_pdqsortCmpFunc y9.2.2 (a' : Int) y9.1 lm).bind fun y10 => some (Lp.go (y10, IntKind.wrap .i64 (y9.1 + 1), (b' : Int), lm, decide ((IntKind.wrap .i64 (Int.tdiv ((b' - a' : Nat) : Int) 8)) ≤ (IntKind.wrap .i64 (y9.1 - (a' : Int)))), y9.2.1))) else (((rec1 n).slices_pdqsortCmpFunc y9.2.2 (IntKind.wrap .i64 (y9.1 + 1)) (b' : Int) lm).bind fun y11 => some (Lp.go (y11, (a' : Int), y9.1, lm, decide ((IntKind.wrap .i64 (Int.tdiv ((b' - a' : Nat) : Int) 8)) ≤ (IntKind.wrap .i64 ((b' : Int) - y9.1))), y9.2.1)))))
        else ((slices_partitionCmpFunc x12 (a' : Int) (b' : Int) (pv : Int)).bind fun y9 => bif decide ((IntKind.wrap .i64 (y9.1 - (a' : Int))) < (IntKind.wrap .i64 ((b' : Int) - y9.1))) then (((rec1 n).slices_pdqsortCmpFunc y9.2.2 (a' : Int) y9.1 lm).bind fun y10 => some (Lp.go (y10, IntKind.wrap .i64 (y9.1 + 1), (b' : Int), lm, decide ((IntKind.wrap .i64 (Int.tdiv ((b' - a' : Nat) : Int) 8)) ≤ (IntKind.wrap .i64 (y9.1 - (a' : Int)))), y9.2.1))) else (((rec1 n).slices_pdqsortCmpFunc y9.2.2 (IntKind.wrap .i64 (y9.1 + 1)) (b' : Int) lm).bind fun y11 => some (Lp.go (y11, (a' : Int), y9.1, lm, decide ((IntKind.wrap .i64 (Int.tdiv ((b' - a' : Nat) : Int) 8)) ≤ (IntKind.wrap .i64 ((b' : Int) - y9.1))), y9.2.1)))) : Option (Lp (List AllocReach × Int × Int × Int × Bool × Bool) (List AllocReach)))
        (fun z => (∃ t', z = .go t' ∧ (∃ a' b' : Nat, t'.2.1 = (a' : Int) ∧ t'.2.2.1 = (b' : Int) ∧ a ≤ a' ∧ a' ≤ b' ∧ b' ≤ b ∧ PO l t'.1 a b ∧ SX t'.1 a b a' b' ∧ LL t'.1 a' b') ∧ t'.2.2.1.toNat - t'.2.1.toNat < (b' : Int).toNat - (a' : Int).toNat) ∨ (∃ t', z = .brk t' ∧ Tt (none : Option (List AllocReach)) fun y => PO l y a b ∧ Srt y a b) ∨ ∃ y, z = .ret y ∧ Tt (some y) fun y => PO l y a b ∧ Srt y a b) := by
      intro x12 pv lm hp k1 k2
      have hpl := hp.len
      refine Tt.bif (fun h0 => ?_) (fun _ => htail x12 pv lm hp k1 k2)
      have h0 := of_decide_eq_true h0
      rw [wkm (by omega) (by omega)]
      refine Tt.bnd (idx_gt (by omega)) (Tt.bnd (idx_gt (by omega)) (Tt.bind (cmp_t _ _) fun y hy => ?_))
      rw [hy, hne x12 pv hp k1 k2 (by omega)]
      exact htail x12 pv lm hp k1 k2
    refine Tt.jn2 (fun x7 _ => PO x x7 a' b') (fun kk hkk => ?_) (fun x7 x8 hx7 => ?_)
    · refine Tt.bif (fun _ => ?_) (fun _ => hkk _ _ (PO.refl _ _ _))
      exact Tt.bind (break_t x a' b' (by omega) (by omega) (by omega)) fun y hy => hkk _ _ hy
    have hl7 := hx7.len
    refine Tt.bind (choose_t x7 a' b' (by omega) (by omega) (by omega)) fun y4 ⟨pv, he, hp1, hp2⟩ => ?_
    refine Tt.jn3 (fun x9 x10 _ => PO x x9 a' b' ∧ ∃ pv : Nat, x10 = (pv : Int) ∧ a' ≤ pv ∧ pv < b') (fun kk hkk => ?_) (fun x9 x10 x11 ⟨hx9, pv', he', hq1, hq2⟩ => ?_)
    · refine Tt.bif (fun _ => ?_) (fun _ => hkk _ _ _ ⟨hx7, pv, he, hp1, hp2⟩)
      refine Tt.bind (reverse_t x7 a' b' (by omega) (by omega) (by omega)) fun y hy => hkk _ _ _ ⟨hx7.trans hy, b' - 1 - (pv - a'), ?_, by omega, by omega⟩
      have v1 : IntKind.wrap .i64 (y4.1 - (a' : Int)) = ((pv - a' : Nat) : Int) := wz _ (by omega) (by omega)
      have v2 : IntKind.wrap .i64 ((b' : Int) - 1) = ((b' - 1 : Nat) : Int) := wz _ (by omega) (by omega)
      rw [v1, v2]
      exact wz _ (by omega) (by omega)
    have hl9 := hx9.len
    refine Tt.jn1 (fun x12 => PO x x12 a' b') (fun kk hkk => ?_) (fun x12 hx12 => ?_)
    · refine Tt.bif (fun _ => ?_) (fun _ => hkk _ hx9)
      refine Tt.bif (fun _ => ?_) (fun _ => hkk _ hx9)
      refine Tt.bif (fun _ => ?_) (fun _ => hkk _ hx9)
      refine Tt.bind (partial_t x9 a' b' (by omega) (by omega) (by omega)) fun y ⟨hy1, hy2⟩ => ?_
      rw [hy1]
      exact Tt.bif (fun h => Tt.som (.inr (.inr ⟨_, rfl, Tt.som (hret x9 hx9 (hy2 h))⟩))) (fun _ => hkk _ hx9)
    subst he'
    exact hcut x12 pv' x8 hx12 hq1 hq2
theorem blen : (List.range 41).all (fun k => (bits_Len (IntKind.wrap .u64 (k : Int))).isSome) = true := by decide +kernel
/-- Sorting: there is a result, of the same elements, in order. -/
theorem sort_t (l : List AllocReach) (hl : l.length ≤ 40) (hnd : (l.map keyR).Nodup) : Tt (slices_SortFunc l) (fun y => y.Perm l ∧ Srt y 0 l.length) := by
  unfold slices_SortFunc
  have h := List.all_eq_true.1 blen l.length (by simp; omega)
  obtain ⟨lim, hlim⟩ := Option.isSome_iff_exists.1 h
  refine Tt.bnd hlim ?_
  refine Tt.bind (pdq_t NN l 0 l.length lim (NN_big (by omega)) (by omega) (Nat.le_refl _) hl hnd (fun i j h _ _ => by omega)) fun y ⟨h1, h2⟩ => Tt.som ⟨h1.perm, h2⟩
end Go.Proofs.YteoihjfnojgnnaaGreat
