/- Plain laws on the models of seats: with a machine's register for each none needs a slot, with none each has its own. No program is in sight here. -/
import Derived.Test.YteoihjfnojgnnaaGreatL24v
set_option linter.unusedVariables false
namespace Go.Proofs.YteoihjfnojgnnaaGreat

/-- A walk over ranges. -/
inductive WalkP (n : Nat) (ord : List AllocReach) (d0 : AllocDesk) : Nat → AllocDesk → Prop where
  | nil : WalkP n ord d0 0 d0
  | step {k : Nat} {d d' : AllocDesk} (h : WalkP n ord d0 k d) (hs : StepP n d (gR ord k) d') : WalkP n ord d0 (k + 1) d'
def D0 (R n : Nat) : AllocDesk := ⟨List.replicate 12 ⟨⟨0, 0, 0, false⟩, 0, false⟩, n, List.replicate R ⟨0, -1⟩, 0, 0⟩
/-- What is known of the ranges, in their order. -/
structure OrdP (R : Nat) (X : Nat → RX) (ord : List AllocReach) : Prop where
  perm : ord.Perm ((repL R X).filter (fun x => x.is))
  srt : Srt ord 0 ord.length
theorem repL_pw {R : Nat} {X : Nat → RX} (hX : RegX X) : (repL R X).Pairwise (fun a b => a.r ≠ b.r) := by
  unfold repL
  rw [List.pairwise_map]
  refine List.Pairwise.imp ?_ List.pairwise_lt_range
  intro a b hab
  show (X a).R ≠ (X b).R
  rw [hX, hX]
  omega
theorem OrdP.pw {R : Nat} {X : Nat → RX} {ord : List AllocReach} (h : OrdP R X ord) (hX : RegX X) : ord.Pairwise (fun a b => a.r ≠ b.r) :=
  (h.perm.pairwise_iff (fun {x y} hxy => hxy.symm)).2 ((repL_pw hX).filter _)
theorem OrdP.len {R : Nat} {X : Nat → RX} {ord : List AllocReach} (h : OrdP R X ord) : ord.length ≤ R := by
  rw [h.perm.length_eq]
  exact Nat.le_trans (List.length_filter_le _ _) (by rw [repL_len]; exact Nat.le_refl _)
theorem OrdP.reg {R : Nat} {X : Nat → RX} {ord : List AllocReach} (h : OrdP R X ord) (hX : RegX X) {k : Nat} (hk : k < ord.length) : InR R (gR ord k).r ∧ gR ord k = cvX (X (gR ord k).r.toNat) := by
  have hm : gR ord k ∈ (repL R X).filter (fun x => x.is) := h.perm.mem_iff.1 (by rw [gt_at hk]; exact List.getElem_mem hk)
  have hm := (List.mem_filter.1 hm).1
  unfold repL at hm
  obtain ⟨q, hq, he⟩ := List.mem_map.1 hm
  have hq : q < R := by simpa using hq
  rw [← he]
  have : (cvX (X q)).r = (q : Int) := hX q
  unfold InR
  rw [this]
  exact ⟨⟨by omega, by omega⟩, by rw [show ((q : Int)).toNat = q by omega]⟩
theorem OrdP.ne {R : Nat} {X : Nat → RX} {ord : List AllocReach} (h : OrdP R X ord) (hX : RegX X) {j k : Nat} (hj : j < ord.length) (hk : k < ord.length) (hne : j ≠ k) : (gR ord j).r ≠ (gR ord k).r := by
  have hp := List.pairwise_iff_getElem.1 (h.pw hX)
  rcases Nat.lt_or_ge j k with hjk | hjk
  · have := hp j k hj hk hjk
    rw [gt_at hj, gt_at hk]; exact this
  · have := hp k j hk hj (by omega)
    rw [gt_at hj, gt_at hk]; exact this.symm
theorem WalkP.dsk {R n : Nat} {X : Nat → RX} {ord : List AllocReach} (hn : n ≤ 12) (ho : OrdP R X ord) (hX : RegX X) {k : Nat} {d : AllocDesk} (h : WalkP n ord (D0 R n) k d) (hk : k ≤ ord.length) : Dsk R n d := by
  induction h with
  | nil =>
    refine ⟨by simp [D0], rfl, by simp [D0], fun k hk hh => ?_⟩
    unfold hd D0 at hh
    rw [List.getD_eq_getElem?_getD, List.getElem?_replicate] at hh
    split at hh <;> cases hh
  | step h hs ih => exact hs.dsk hn (ih (by omega)) (ho.reg hX (by omega)).1
/-- Seats: there are some, by a walk. -/
structure SeatP (R n : Nat) (X : Nat → RX) (z : List Seat × Int × Int) : Prop where
  ok : z.2.2 = 0
  ex : ∃ (ord : List AllocReach) (d : AllocDesk), OrdP R X ord ∧ WalkP n ord (D0 R n) ord.length d ∧ z.1 = d.seats ∧ z.2.1 = d.slots
theorem assign_t (p : Proc) (hp : Rgt p) (inn out : List (List Bool)) (hL : flow_Live p = some (inn, out)) (hD : LvD p p.Regs.toNat inn out) (n : Nat) (hn : n ≤ 12) : Tt (alloc_Assign p n) (SeatP p.Regs.toNat n (allX p inn out).1) := by
  have hr := ranges_eq p hp inn out hL hD
  have hX := allX_R p inn out
  have h40 := hp.regs
  generalize (allX p inn out).1 = X at hr hX
  have hR : p.Regs.toNat ≤ 40 := by omega
  generalize p.Regs.toNat = R at hr hR
  unfold alloc_Assign
  refine Tt.bif (fun h => by have := of_decide_eq_true h; omega) (fun _ => ?_)
  refine Tt.bif (fun h => by have := of_decide_eq_true h; omega) (fun _ => ?_)
  refine Tt.bnd hr ?_
  rw [repL_len]
  refine Tt.cnt R (by omega) (fun k t => t = ((k : Int), ⟨List.replicate 12 ⟨⟨0, 0, 0, false⟩, 0, false⟩, n, List.replicate k ⟨0, -1⟩, 0, 0⟩)) rfl ?_ ?_
  · rintro k hk _ rfl
    refine Tt.bif (fun _ => ?_) (fun h => by have := of_decide_eq_false h; omega)
    refine Tt.bnd (show lenOk _ 12 = some () from rfl) (Tt.bnd (room_ok (by simp; omega)) (Tt.som ⟨_, rfl, ?_⟩))
    rw [wk1 (by omega), show List.replicate (k + 1) (⟨0, -1⟩ : Seat) = List.replicate k ⟨0, -1⟩ ++ [⟨0, -1⟩] from List.replicate_succ']
  rintro _ rfl
  refine ⟨c0 (dge _), ?_⟩
  dsimp only [Lp.thn]
  refine Tt.bind (delete_t (repL R X) (by rw [repL_len]; omega)) fun y2 hy2 => ?_
  have hl2 : y2.length ≤ R := by rw [hy2]; exact Nat.le_trans (List.length_filter_le _ _) (by rw [repL_len]; exact Nat.le_refl _)
  have hnd : (y2.map keyR).Nodup := by
    show List.Pairwise _ _
    rw [List.pairwise_map, hy2]
    refine List.Pairwise.imp ?_ ((repL_pw hX).filter _)
    intro a b hab he
    unfold keyR at he
    simp only [Prod.mk.injEq] at he
    exact hab he.2.2
  refine Tt.bind (sort_t y2 (by omega) hnd) fun ord ⟨hp1, hs1⟩ => ?_
  have ho : OrdP R X ord := ⟨hy2 ▸ hp1, by rw [hp1.length_eq]; exact hs1⟩
  have hol := ho.len
  show Tt ((loopM _ NN ((0 : Int), D0 R n)).bind _) _
  refine Tt.cnt ord.length (by omega) (fun k t => t.1 = (k : Int) ∧ WalkP n ord (D0 R n) k t.2) ⟨rfl, .nil⟩ ?_ ?_
  · rintro k hk ⟨x5, d⟩ ⟨h1, h2⟩
    dsimp only at h1 h2
    subst h1
    dsimp only
    refine Tt.bif (fun _ => ?_) (fun h => by have := of_decide_eq_false h; omega)
    refine Tt.bnd (idx_gt hk) (Tt.bind (step_t R n d _ hn (h2.dsk hn ho hX (by omega)) (ho.reg hX hk).1) fun d' hd' => Tt.som ⟨_, rfl, wk1 (by omega), .step h2 hd'⟩)
  · rintro ⟨x5, d⟩ ⟨h1, h2⟩
    dsimp only at h1 h2
    subst h1
    refine ⟨c0 (dge _), ?_⟩
    refine Tt.bnd (show lenOk d.hold 12 = some () by unfold lenOk; rw [if_pos (h2.dsk hn ho hX (Nat.le_refl _)).hold]) (Tt.som ⟨rfl, ord, d, ho, h2, rfl, rfl⟩)

/-! Counting. -/
def cnt (f : Nat → Bool) : Nat → Nat
  | 0 => 0
  | n + 1 => cnt f n + (bif f n then 1 else 0)
theorem cnt_mono {f g : Nat → Bool} : ∀ n, (∀ k, k < n → f k = true → g k = true) → cnt f n ≤ cnt g n
  | 0, _ => Nat.le_refl _
  | n + 1, h => by
    have ih := cnt_mono n (fun k hk => h k (by omega))
    have h1 := h n (by omega)
    unfold cnt
    cases hf : f n with
    | false => cases g n <;> simp <;> omega
    | true => rw [h1 hf]; omega
theorem cnt_one {f g : Nat → Bool} {i : Nat} : ∀ n, (∀ k, k < n → k ≠ i → f k = true → g k = true) → cnt f n ≤ cnt g n + 1
  | 0, _ => Nat.zero_le _
  | n + 1, h => by
    unfold cnt
    by_cases hni : n = i
    · have ih := cnt_mono n (f := f) (g := g) (fun k hk => h k (by omega) (by omega))
      cases f n <;> cases g n <;> simp <;> omega
    · have ih := cnt_one n (fun k hk => h k (by omega))
      have h1 := h n (by omega) hni
      cases hf : f n with
      | false => cases g n <;> simp <;> omega
      | true => rw [h1 hf]; simp; omega
theorem cnt_all {f : Nat → Bool} : ∀ n, (∀ k, k < n → f k = true) → cnt f n = n
  | 0, _ => rfl
  | n + 1, h => by
    unfold cnt
    rw [cnt_all n (fun k hk => h k (by omega)), h n (by omega)]
    rfl
theorem rel_held {x : AllocHolder} {fr : Int} (h : (rel x fr).held = true) : x.held = true := by
  unfold rel at h
  cases hc : (x.held && decide (x.reach.to < fr)) with
  | true => rw [hc] at h; cases h
  | false => rw [hc] at h; exact h
theorem many_t {R : Nat} {X : Nat → RX} {ord : List AllocReach} (ho : OrdP R X ord) (hX : RegX X) (hR : R ≤ 12) {k : Nat} {d : AllocDesk} (h : WalkP 12 ord (D0 R 12) k d) (hk : k ≤ ord.length) : d.slots = 0 ∧ cnt (fun q => (hd d.hold q).held) 12 ≤ k := by
  have hol := ho.len
  induction h with
  | nil =>
    refine ⟨rfl, ?_⟩
    have : ∀ q, (hd (D0 R 12).hold q).held = false := by
      intro q
      unfold hd D0
      rw [List.getD_eq_getElem?_getD, List.getElem?_replicate]
      split <;> rfl
    simp only [this]
    decide
  | @step k d d' h hs ih =>
    obtain ⟨ih1, ih2⟩ := ih (by omega)
    have hle : ∀ (h : List AllocHolder), (∀ q, q < 12 → hd h q = rel (hd d.hold q) (gR ord k).from_) → cnt (fun q => (hd h q).held) 12 ≤ k := by
      intro h hr
      refine Nat.le_trans (cnt_mono 12 fun q hq hh => ?_) ih2
      rw [hr q hq] at hh
      exact rel_held hh
    cases hs with
    | free h i hl hr hi hf hlo he =>
      subst he
      refine ⟨ih1, ?_⟩
      refine Nat.le_trans (cnt_one (i := i) (g := fun q => (hd h q).held) 12 fun q hq hne hh => ?_) (by have := hle h hr; omega)
      have hh : (hd (h.set i ⟨gR ord k, IntKind.wrap .i64 (d.came + 1), true⟩) q).held = true := hh
      rw [hd_set (by omega), if_neg hne] at hh
      exact hh
    | slot h hl hr hf hm he =>
      exfalso
      have h1 := hle h hr
      rw [cnt_all 12 hf] at h1
      omega
    | spill h i hl hr hf hi hm hx he =>
      exfalso
      have h1 := hle h hr
      rw [cnt_all 12 hf] at h1
      omega
theorem none_t {R : Nat} {X : Nat → RX} {ord : List AllocReach} (ho : OrdP R X ord) (hX : RegX X) (hR : R ≤ 40) {k : Nat} {d : AllocDesk} (h : WalkP 0 ord (D0 R 0) k d) (hk : k ≤ ord.length) : d.slots = (k : Int) ∧ d.seats.length = R ∧ (∀ j, j < k → sR d.seats (gR ord j).r.toNat = ⟨0, j⟩) ∧ ∀ q : Nat, q < R → (∀ j, j < k → (gR ord j).r ≠ (q : Int)) → sR d.seats q = ⟨0, -1⟩ := by
  have hol := ho.len
  induction h with
  | nil =>
    refine ⟨rfl, by simp [D0], fun j hj => by omega, fun q hq _ => ?_⟩
    unfold sR D0
    rw [List.getD_eq_getElem?_getD, List.getElem?_replicate, if_pos hq]
    rfl
  | @step k d d' h hs ih =>
    obtain ⟨i1, i2, i3, i4⟩ := ih (by omega)
    cases hs with
    | free h i hl hr hi hf hlo he => omega
    | spill h i hl hr hf hi hm hx he => omega
    | slot h hl hr hf hm he =>
      subst he
      obtain ⟨⟨r0, r1⟩, _⟩ := ho.reg hX (show k < ord.length by omega)
      have hlt : (gR ord k).r.toNat < d.seats.length := by omega
      refine ⟨?_, by simp [slotF, i2], fun j hj => ?_, fun q hq hne => ?_⟩
      · show IntKind.wrap .i64 (d.slots + 1) = _
        rw [i1, wk1 (by omega)]
      · show sR (d.seats.set (gR ord k).r.toNat ⟨0, d.slots⟩) _ = _
        rw [st_set hlt]
        by_cases hjk : j = k
        · subst hjk
          rw [if_pos rfl, i1]
        · have hr2 := ho.ne hX (show j < ord.length by omega) (show k < ord.length by omega) hjk
          obtain ⟨⟨q0, q1⟩, _⟩ := ho.reg hX (show j < ord.length by omega)
          rw [if_neg (by omega)]
          exact i3 j (by omega)
      · show sR (d.seats.set (gR ord k).r.toNat ⟨0, d.slots⟩) _ = _
        have := hne k (by omega)
        rw [st_set hlt, if_neg (by omega)]
        exact i4 q hq fun j hj => hne j (by omega)

end Go.Proofs.YteoihjfnojgnnaaGreat
