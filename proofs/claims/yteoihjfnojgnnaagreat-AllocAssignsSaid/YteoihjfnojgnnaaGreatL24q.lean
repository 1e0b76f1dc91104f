/- Plain laws on the document's seats: they are the program's. No program is in sight here. -/
import Derived.Test.YteoihjfnojgnnaaGreatL24p
import Derived.Test.YteoihjfnojgnnaaGreatL24i
set_option linter.unusedVariables false
namespace Go.Proofs.YteoihjfnojgnnaaGreat

def gi (l : List Int) (k : Nat) : Int := l.getD k 0
theorem gi_at {l : List Int} {k : Nat} (h : k < l.length) : idx l (k : Int) = some (gi l k) := by
  rw [idx_get h]
  unfold gi
  rw [List.getD_eq_getElem?_getD, List.getElem?_eq_getElem h]
  rfl
theorem gi_set {l : List Int} {i k : Nat} {x : Int} (hi : i < l.length) : gi (l.set i x) k = if k = i then x else gi l k := getD_set l i k x hi
/-- What the document's walk keeps of a holder. -/
def rv (h : List AllocHolder) (i : Nat) : Int := bif (hd h i).held then (hd h i).came else 0
structure CamP (n : Nat) (ord : List AllocReach) (k : Nat) (d : AllocDesk) : Prop where
  came : d.came = (k : Int)
  held : ∀ i, i < n → (hd d.hold i).held = true → ∃ j : Nat, j < k ∧ (hd d.hold i).came = ((j + 1 : Nat) : Int) ∧ (hd d.hold i).reach = gR ord j
theorem rel_same {x : AllocHolder} {fr : Int} (h : (rel x fr).held = true) : rel x fr = x := by
  unfold rel at h ⊢
  cases hc : (x.held && decide (x.reach.to < fr)) with
  | true => rw [hc] at h; cases h
  | false => rfl
theorem cam_t {R n : Nat} {X : Nat → RX} {ord : List AllocReach} (hn : n ≤ 12) (ho : OrdP R X ord) (hR : R ≤ 40) {k : Nat} {d : AllocDesk} (h : WalkP n ord (D0 R n) k d) (hk : k ≤ ord.length) : CamP n ord k d := by
  have hol := ho.len
  induction h with
  | nil =>
    refine ⟨rfl, fun i _ hh => ?_⟩
    unfold hd D0 at hh
    rw [List.getD_eq_getElem?_getD, List.getElem?_replicate] at hh
    split at hh <;> cases hh
  | @step k d d' hw hs ih =>
    obtain ⟨c1, c2⟩ := ih (by omega)
    have hw1 : IntKind.wrap .i64 (d.came + 1) = ((k + 1 : Nat) : Int) := by rw [c1, wk1 (by omega)]
    have hh : ∀ (h : List AllocHolder), (∀ q, q < n → hd h q = rel (hd d.hold q) (gR ord k).from_) → ∀ i, i < n → (hd h i).held = true → ∃ j : Nat, j < k + 1 ∧ (hd h i).came = ((j + 1 : Nat) : Int) ∧ (hd h i).reach = gR ord j := by
      intro h hr i hi hh
      rw [hr i hi] at hh ⊢
      have e := rel_same hh
      rw [e] at hh ⊢
      obtain ⟨j, j1, j2, j3⟩ := c2 i hi hh
      exact ⟨j, by omega, j2, j3⟩
    have ht : ∀ (h : List AllocHolder) (i0 : Nat), h.length = 12 → i0 < n → (∀ q, q < n → hd h q = rel (hd d.hold q) (gR ord k).from_) → ∀ i, i < n → (hd (h.set i0 ⟨gR ord k, IntKind.wrap .i64 (d.came + 1), true⟩) i).held = true → ∃ j : Nat, j < k + 1 ∧ (hd (h.set i0 ⟨gR ord k, IntKind.wrap .i64 (d.came + 1), true⟩) i).came = ((j + 1 : Nat) : Int) ∧ (hd (h.set i0 ⟨gR ord k, IntKind.wrap .i64 (d.came + 1), true⟩) i).reach = gR ord j := by
      intro h i0 hl hi0 hr i hi
      rw [hd_set (by omega)]
      split
      · intro _; exact ⟨k, by omega, hw1, rfl⟩
      · exact hh h hr i hi
    cases hs with
    | free h i0 hl hr hi hf hlo he => subst he; exact ⟨hw1, ht h i0 hl hi hr⟩
    | slot h hl hr hf hm he => subst he; exact ⟨hw1, hh h hr⟩
    | spill h i0 hl hr hf hi hm hx he => subst he; exact ⟨hw1, ht h i0 hl hi hr⟩
/-- What a step does, told once. -/
theorem StepP.all {n : Nat} {d d' : AllocDesk} {x : AllocReach} (h : StepP n d x d') : ∃ h : List AllocHolder, h.length = 12 ∧ (∀ k, k < n → hd h k = rel (hd d.hold k) x.from_) ∧
    ((∃ i, i < n ∧ (hd h i).held = false ∧ (∀ k, k < i → (hd h k).held = true) ∧ d' = takeF { d with hold := h, came := IntKind.wrap .i64 (d.came + 1) } i x) ∨
     ((∀ k, k < n → (hd h k).held = true) ∧ (∀ k, k < n → (hd h k).reach.to ≤ x.to) ∧ d' = slotF { d with hold := h, came := IntKind.wrap .i64 (d.came + 1) } x.r) ∨
     (∃ i, i < n ∧ (∀ k, k < n → (hd h k).held = true) ∧ (∀ k, k < n → (hd h k).reach.to < (hd h i).reach.to ∨ ((hd h k).reach.to = (hd h i).reach.to ∧ (hd h k).came ≤ (hd h i).came)) ∧ x.to < (hd h i).reach.to ∧ d' = takeF (slotF { d with hold := h, came := IntKind.wrap .i64 (d.came + 1) } (hd h i).reach.r) i x)) := by
  cases h with
  | free h i hl hr hi hf hlo he => exact ⟨h, hl, hr, .inl ⟨i, hi, hf, hlo, he⟩⟩
  | slot h hl hr hf hm he => exact ⟨h, hl, hr, .inr (.inl ⟨hf, hm, he⟩)⟩
  | spill h i hl hr hf hi hm hx he => exact ⟨h, hl, hr, .inr (.inr ⟨i, hi, hf, hm, hx, he⟩)⟩
theorem walk_seq {n : Nat} {ord : List AllocReach} {d0 : AllocDesk} {k : Nat} {d : AllocDesk} (h : WalkP n ord d0 k d) : ∃ ds : Nat → AllocDesk, ds 0 = d0 ∧ ds k = d ∧ ∀ j, j < k → StepP n (ds j) (gR ord j) (ds (j + 1)) ∧ WalkP n ord d0 j (ds j) := by
  induction h with
  | nil => exact ⟨fun _ => d0, rfl, rfl, fun j hj => by omega⟩
  | @step k d d' hw hs ih =>
    obtain ⟨ds, e1, e2, e3⟩ := ih
    refine ⟨fun j => if j ≤ k then ds j else d', by simp [e1], if_neg (by omega), fun j hj => ?_⟩
    dsimp only
    by_cases hjk : j < k
    · have := e3 j hjk
      rw [if_pos (by omega), if_pos (by omega)]
      exact this
    · have : j = k := by omega
      subst this
      rw [if_pos (Nat.le_refl _), if_neg (by omega), e2]
      exact ⟨hs, hw⟩
def SimP (n k : Nat) (d : AllocDesk) (t : List Int × Int × ref24Given) : Prop := t.2.1 = (k : Int) ∧ t.1.length = n ∧ (∀ i, i < n → gi t.1 i = rv d.hold i) ∧ t.2.2.Seats = d.seats ∧ t.2.2.Slots = d.slots
theorem refAssign_t (p : Proc) (hp : Rgt p) (inn out : List (List Bool)) (hD : LvD p p.Regs.toNat inn out) (n : Nat) (hn : n ≤ 12) (ord : List AllocReach) (d : AllocDesk) (ho : OrdP p.Regs.toNat (allX p inn out).1 ord) (hw : WalkP n ord (D0 p.Regs.toNat n) ord.length d) :
    Tt (ref24_Assign p n) (fun z => z.Seats = d.seats ∧ z.Slots = d.slots) := by
  have hwk := walk_t p hp inn out hD
  have hX := allX_R p inn out
  have h40 := hp.regs
  obtain ⟨hg0, hg1, _⟩ := hp.prc
  have hRR : p.Regs = (p.Regs.toNat : Int) := by omega
  generalize (allX p inn out).1 = X at hwk hX ho
  generalize p.Regs.toNat = R at hRR hwk ho hw
  have hR : R ≤ 40 := by omega
  have hol := ho.len
  unfold ref24_Assign
  rw [hRR]
  refine Tt.cnt R (by omega) (fun k t => t = ((k : Int), ⟨List.replicate k ⟨0, -1⟩, 0⟩)) rfl ?_ ?_
  · rintro k hk _ rfl
    refine Tt.bif (fun _ => ?_) (fun h => by have := of_decide_eq_false h; omega)
    refine Tt.bnd (room_ok (by simp; omega)) (Tt.som ⟨_, rfl, ?_⟩)
    rw [wk1 (by omega), show List.replicate (k + 1) (⟨0, -1⟩ : Seat) = List.replicate k ⟨0, -1⟩ ++ [⟨0, -1⟩] from List.replicate_succ']
  rintro _ rfl
  refine ⟨c0 (dge _), ?_⟩
  dsimp only [Lp.thn]
  refine Tt.bind hwk fun y1 ⟨hy1, hy2⟩ => ?_
  have hy : y1.map toA = ord := slt_uniq _ _ (hy2.trans ho.perm.symm) hy1 (ho.slt hX)
  have hyl : y1.length = ord.length := by rw [← hy, List.length_map]
  have hyw : ∀ j, j < ord.length → ∃ w, idx y1 (j : Int) = some w ∧ w.R = (gR ord j).r ∧ w.From = (gR ord j).from_ ∧ w.To = (gR ord j).to := by
    intro j hj
    refine ⟨y1[j]'(by omega), idx_get (by omega), ?_⟩
    have : gR ord j = toA (y1[j]'(by omega)) := by
      rw [gt_at hj]
      subst hy
      rw [List.getElem_map]
    rw [this]
    exact ⟨rfl, rfl, rfl⟩
  have hrep : repl (n : Int) (0 : Int) = some (List.replicate n 0) := by
    unfold repl
    rw [if_pos (by omega)]
    rfl
  refine Tt.bnd hrep ?_
  rw [hyl]
  obtain ⟨ds, q0, q1, q2⟩ := walk_seq hw
  refine Tt.cnt ord.length (by omega) (fun k t => SimP n k (ds k) t) ⟨rfl, by simp, fun i hi => ?_, by rw [q0]; rfl, by rw [q0]; rfl⟩ ?_ ?_
  · rw [q0]
    unfold gi rv hd D0
    rw [List.getD_eq_getElem?_getD, List.getD_eq_getElem?_getD, List.getElem?_replicate, List.getElem?_replicate, if_pos hi, if_pos (by omega)]
    rfl
  · rintro k hk ⟨x4, x6, x7⟩ ⟨s1, s2, s3, s4, s5⟩
    dsimp only at s1 s2 s3 s4 s5
    subst s1
    obtain ⟨hstep, hwalk⟩ := q2 k hk
    generalize ds k = d0 at hstep hwalk s3 s4 s5
    generalize ds (k + 1) = d1 at hstep
    have hcam := cam_t hn ho hR hwalk (by omega)
    have hscan := scan_t hn ho hX hR hwalk (by omega)
    have hdsk := hwalk.dsk hn ho hX (by omega)
    obtain ⟨h, hl, hr, hcase⟩ := hstep.all
    have hkr := (ho.reg hX hk).1
    unfold InR at hkr
    dsimp only
    refine Tt.bif (fun _ => ?_) (fun h => by have := of_decide_eq_false h; omega)
    refine Tt.jn2 (fun (x8 : List Int) (x10 : ref24Given) => SimP n (k + 1) d1 (x8, ((k + 1 : Nat) : Int), x10)) (fun kk1 hkk1 => ?_) (fun x8 x10 h => Tt.som ⟨_, rfl, by rw [wk1 (by omega)]; exact h⟩)
    obtain ⟨w, hw0, hwR, hwF, hwT⟩ := hyw k hk
    refine Tt.bnd hw0 ?_
    -- who holds in h
    have hheld : ∀ i, i < n → (hd h i).held = true → ∃ j : Nat, j < k ∧ (hd h i).came = ((j + 1 : Nat) : Int) ∧ (hd h i).reach = gR ord j := by
      intro i hi hh
      rw [hr i hi] at hh ⊢
      have e := rel_same hh
      rw [e] at hh ⊢
      exact hcam.held i hi hh
    have hdist : ∀ i i', i < n → i' < n → (hd h i).held = true → (hd h i').held = true → (hd h i).came = (hd h i').came → i = i' := by
      intro i i' hi hi' hh hh' hc
      rw [hr i hi] at hh hc
      rw [hr i' hi'] at hh' hc
      have e := rel_same hh
      have e' := rel_same hh'
      rw [e] at hh hc
      rw [e'] at hh' hc
      obtain ⟨j, j1, j2, j3⟩ := hcam.held i hi hh
      obtain ⟨j', j1', j2', j3'⟩ := hcam.held i' hi' hh'
      have hjj : j = j' := by omega
      subst hjj
      obtain ⟨a, a1, a2, a3⟩ := hscan.held i hi hh
      obtain ⟨a', a1', a2', a3'⟩ := hscan.held i' hi' hh'
      rw [j3] at a2
      rw [j3'] at a2'
      rw [← a2] at a3
      rw [← a2', a3] at a3'
      exact nm_inj i (by omega) i' (by omega) (by injection a3')
    -- the first loop
    have wn : IntKind.wrap .i64 ((n : Int) - 1) = (n : Int) - 1 := w64 (by omega)
    rw [wn]
    refine Tt.cnt n (by omega) (fun m t => t.2.2 = (n : Int) - 1 - (m : Int) ∧ t.1.length = n ∧ (∀ i, i < n → gi t.1 i = if n - m ≤ i then rv h i else rv d0.hold i) ∧
      ((t.2.1 = -1 ∧ ∀ i, n - m ≤ i → i < n → (hd h i).held = true) ∨ ∃ i : Nat, n - m ≤ i ∧ i < n ∧ t.2.1 = (i : Int) ∧ (hd h i).held = false ∧ ∀ j, n - m ≤ j → j < i → (hd h j).held = true)) ?_ ?_ ?_
    · refine ⟨by dsimp only; omega, s2, fun i hi => ?_, .inl ⟨rfl, fun i h1 h2 => by omega⟩⟩
      rw [if_neg (by omega)]
      exact s3 i hi
    · rintro m hm ⟨x11, x12, x13⟩ ⟨t1, t2, t3, t4⟩
      dsimp only at t1 t2 t3 t4
      obtain ⟨q, hq, hqm⟩ : ∃ q : Nat, x13 = (q : Int) ∧ q + m + 1 = n := ⟨n - 1 - m, by omega, by omega⟩
      subst hq
      have hqn : q < n := by omega
      have e1 : n - m = q + 1 := by omega
      have e2 : n - (m + 1) = q := by omega
      rw [e1] at t3 t4
      rw [e2]
      have hgq : gi x11 q = rv d0.hold q := by rw [t3 q hqn, if_neg (by omega)]
      have wq : IntKind.wrap .i64 ((q : Int) - 1) = (n : Int) - 1 - ((m + 1 : Nat) : Int) := by rw [w64 (by omega)]; omega
      dsimp only
      refine Tt.bif (fun _ => ?_) (fun h => by have := of_decide_eq_false h; omega)
      refine Tt.jn2 (fun (x14 : List Int) (x15 : Int) => x14.length = n ∧ (∀ i, i < n → gi x14 i = if q ≤ i then rv h i else rv d0.hold i) ∧ ((x15 = -1 ∧ ∀ i, q ≤ i → i < n → (hd h i).held = true) ∨ ∃ i : Nat, q ≤ i ∧ i < n ∧ x15 = (i : Int) ∧ (hd h i).held = false ∧ ∀ j, q ≤ j → j < i → (hd h j).held = true)) (fun kk2 hkk2 => ?_) (fun x14 x15 ⟨h1, h2, h3⟩ => Tt.som ⟨_, rfl, wq, h1, h2, h3⟩)
      refine Tt.jn1 (fun x16 : List Int => x16.length = n ∧ ∀ i, i < n → gi x16 i = if q ≤ i then rv h i else rv d0.hold i) (fun kk3 hkk3 => ?_) (fun x16 ⟨h1, h2⟩ => ?_)
      · refine Tt.bnd (gi_at (by omega)) ?_
        rw [hgq]
        have hsame : (hd h q = hd d0.hold q) → ∀ i, i < n → gi x11 i = if q ≤ i then rv h i else rv d0.hold i := by
          intro he i hi
          rw [t3 i hi]
          by_cases hqi : i = q
          · subst hqi
            rw [if_neg (by omega), if_pos (Nat.le_refl _)]
            unfold rv
            rw [he]
          · by_cases hlt : q ≤ i
            · rw [if_pos (by omega), if_pos hlt]
            · rw [if_neg (by omega), if_neg hlt]
        refine Tt.bif (fun h0 => ?_) (fun h0 => ?_)
        · have h0 := of_decide_eq_true h0
          have hh : (hd d0.hold q).held = true := by
            unfold rv at h0
            cases hc : (hd d0.hold q).held with
            | true => rfl
            | false => rw [hc] at h0; simp at h0
          obtain ⟨j, j1, j2, j3⟩ := hcam.held q hqn hh
          have hrv : rv d0.hold q = ((j + 1 : Nat) : Int) := by unfold rv; rw [hh, cond_true, j2]
          refine Tt.bnd (gi_at (by omega)) ?_
          rw [hgq, hrv, wz j (by omega) (by omega)]
          obtain ⟨v, v0, vR, vF, vT⟩ := hyw j (by omega)
          refine Tt.bnd v0 ?_
          rw [vT, hwF, ← j3]
          refine Tt.bif (fun hlt => ?_) (fun hlt => ?_)
          · refine Tt.bnd (gi_at (by omega)) (Tt.bnd (gi_at (by omega)) (hkk3 _ ⟨by simp [t2], fun i hi => ?_⟩))
            rw [show (q : Int).toNat = q by omega, gi_set (by omega)]
            by_cases hiq : i = q
            · subst hiq
              rw [if_pos rfl, if_pos (Nat.le_refl _)]
              unfold rv
              rw [hr i hqn]
              unfold rel
              rw [hh, hlt]
              rfl
            · rw [if_neg hiq, t3 i hi]
              by_cases hlt : q ≤ i
              · rw [if_pos (by omega), if_pos hlt]
              · rw [if_neg (by omega), if_neg hlt]
          · refine hkk3 _ ⟨t2, hsame ?_⟩
            rw [hr q hqn]
            unfold rel
            rw [hh, hlt]
            rfl
        · have h0 := of_decide_eq_false h0
          have hh : (hd d0.hold q).held = false := by
            cases hc : (hd d0.hold q).held with
            | false => rfl
            | true =>
              obtain ⟨j, j1, j2, j3⟩ := hcam.held q hqn hc
              unfold rv at h0
              rw [hc, cond_true, j2] at h0
              omega
          refine hkk3 _ ⟨t2, hsame ?_⟩
          rw [hr q hqn]
          unfold rel
          rw [hh]
          rfl
      · refine Tt.bnd (gi_at (by omega)) ?_
        rw [h2 q hqn, if_pos (Nat.le_refl _)]
        refine Tt.bif (fun h0 => ?_) (fun h0 => ?_)
        · have h0 : rv h q = 0 := by simpa using h0
          have hh : (hd h q).held = false := by
            cases hc : (hd h q).held with
            | false => rfl
            | true =>
              obtain ⟨j, j1, j2, j3⟩ := hheld q hqn hc
              unfold rv at h0
              rw [hc, cond_true, j2] at h0
              omega
          exact hkk2 _ _ ⟨h1, h2, .inr ⟨q, Nat.le_refl _, hqn, rfl, hh, fun j a b => by omega⟩⟩
        · have h0 : rv h q ≠ 0 := by simpa using h0
          have hh : (hd h q).held = true := by
            cases hc : (hd h q).held with
            | true => rfl
            | false => unfold rv at h0; rw [hc] at h0; exact absurd rfl h0
          refine hkk2 _ _ ⟨h1, h2, ?_⟩
          rcases t4 with ⟨e, f⟩ | ⟨i, i1, i2, i3, i4, i5⟩
          · refine .inl ⟨e, fun i a b => ?_⟩
            by_cases hiq : i = q
            · rw [hiq]; exact hh
            · exact f i (by omega) b
          · refine .inr ⟨i, by omega, i2, i3, i4, fun j a b => ?_⟩
            by_cases hiq : j = q
            · rw [hiq]; exact hh
            · exact i5 j (by omega) b
    rintro ⟨x11, x12, x13⟩ ⟨t1, t2, t3, t4⟩
    dsimp only at t1 t2 t3 t4
    obtain rfl : x13 = -1 := by omega
    refine ⟨c0 rfl, ?_⟩
    dsimp only [Lp.thn]
    rw [Nat.sub_self] at t3 t4
    have t3 : ∀ i, i < n → gi x11 i = rv h i := fun i hi => by rw [t3 i hi, if_pos (Nat.zero_le _)]
    -- the second loop
    refine Tt.cnt n (by omega) (fun m t => t.2 = (m : Int) ∧ ((t.1 = -1 ∧ ∀ i, i < m → (hd h i).held = false) ∨ ∃ i : Nat, i < m ∧ t.1 = (i : Int) ∧ (hd h i).held = true ∧ ∀ j, j < m → (hd h j).held = true → (hd h j).reach.to < (hd h i).reach.to ∨ ((hd h j).reach.to = (hd h i).reach.to ∧ (hd h j).came ≤ (hd h i).came))) ⟨rfl, .inl ⟨rfl, fun i hi => by omega⟩⟩ ?_ ?_
    · rintro m hm ⟨x17, x18⟩ ⟨r1, r2⟩
      dsimp only at r1 r2
      subst r1
      dsimp only
      refine Tt.bif (fun _ => ?_) (fun h => by have := of_decide_eq_false h; omega)
      refine Tt.jn1 (fun x19 : Int => (x19 = -1 ∧ ∀ i, i < m + 1 → (hd h i).held = false) ∨ ∃ i : Nat, i < m + 1 ∧ x19 = (i : Int) ∧ (hd h i).held = true ∧ ∀ j, j < m + 1 → (hd h j).held = true → (hd h j).reach.to < (hd h i).reach.to ∨ ((hd h j).reach.to = (hd h i).reach.to ∧ (hd h j).came ≤ (hd h i).came)) (fun kk4 hkk4 => ?_) (fun x19 h => Tt.som ⟨_, rfl, wk1 (by omega), h⟩)
      refine Tt.bnd (gi_at (by omega)) ?_
      rw [t3 m hm]
      have hval : ∀ i, i < n → (hd h i).held = true → ∃ j : Nat, j < k ∧ rv h i = ((j + 1 : Nat) : Int) ∧ (hd h i).came = ((j + 1 : Nat) : Int) ∧ (hd h i).reach = gR ord j := by
        intro i hi hh
        obtain ⟨j, j1, j2, j3⟩ := hheld i hi hh
        exact ⟨j, j1, by unfold rv; rw [hh, cond_true, j2], j2, j3⟩
      refine Tt.bif (fun h0 => ?_) (fun h0 => ?_)
      · have h0 := of_decide_eq_true h0
        have hh : (hd h m).held = true := by
          cases hc : (hd h m).held with
          | true => rfl
          | false => unfold rv at h0; rw [hc] at h0; simp at h0
        obtain ⟨j, j1, j2, j3, j4⟩ := hval m hm hh
        obtain ⟨v, v0, vR, vF, vT⟩ := hyw j (by omega)
        rcases r2 with ⟨rfl, r2⟩ | ⟨i, i1, rfl, i3, i4⟩
        · refine Tt.bif (fun _ => hkk4 _ (.inr ⟨m, by omega, rfl, hh, fun j a b => ?_⟩)) (fun h => by cases h)
          by_cases hjm : j = m
          · subst hjm; exact .inr ⟨rfl, Int.le_refl _⟩
          · have := r2 j (by omega); rw [b] at this; cases this
        · obtain ⟨j', j1', j2', j3', j4'⟩ := hval i (by omega) i3
          obtain ⟨v', v0', vR', vF', vT'⟩ := hyw j' (by omega)
          have hnew : ((hd h i).reach.to < (hd h m).reach.to ∨ ((hd h i).reach.to = (hd h m).reach.to ∧ (hd h i).came ≤ (hd h m).came)) → Tt (kk4 (m : Int)) _ := fun hx => hkk4 _ (.inr ⟨m, by omega, rfl, hh, fun j a b => by
            by_cases hjm : j = m
            · subst hjm; exact .inr ⟨rfl, Int.le_refl _⟩
            · have := i4 j (by omega) b
              omega⟩)
          have hold : ((hd h m).reach.to < (hd h i).reach.to ∨ ((hd h m).reach.to = (hd h i).reach.to ∧ (hd h m).came ≤ (hd h i).came)) → Tt (kk4 (i : Int)) _ := fun hx => hkk4 _ (.inr ⟨i, by omega, rfl, i3, fun j a b => by
            by_cases hjm : j = m
            · subst hjm; exact hx
            · exact i4 j (by omega) b⟩)
          have gm : idx x11 (m : Int) = some ((j + 1 : Nat) : Int) := by rw [gi_at (by omega), t3 m hm, j2]
          have gi' : idx x11 (i : Int) = some ((j' + 1 : Nat) : Int) := by rw [gi_at (by omega), t3 i (by omega), j2']
          have wj : IntKind.wrap .i64 (((j + 1 : Nat) : Int) - 1) = (j : Int) := wz j (by omega) (by omega)
          have wj' : IntKind.wrap .i64 (((j' + 1 : Nat) : Int) - 1) = (j' : Int) := wz j' (by omega) (by omega)
          have eT : v.To = (hd h m).reach.to := by rw [vT, j4]
          have eT' : v'.To = (hd h i).reach.to := by rw [vT', j4']
          refine Tt.bif (fun h => by have := of_decide_eq_true h; omega) (fun _ => ?_)
          refine Tt.bnd gm ?_
          rw [wj]
          refine Tt.bnd v0 (Tt.bnd gi' ?_)
          rw [wj']
          refine Tt.bnd v0' ?_
          rw [eT, eT']
          refine Tt.bif (fun hz => hnew (.inl (of_decide_eq_true hz))) (fun hz => ?_)
          have hz := of_decide_eq_false hz
          refine Tt.bnd gm ?_
          rw [wj]
          refine Tt.bnd v0 (Tt.bnd gi' ?_)
          rw [wj']
          refine Tt.bnd v0' ?_
          rw [eT, eT']
          refine Tt.bif (fun he => ?_) (fun he => ?_)
          · have he : (hd h m).reach.to = (hd h i).reach.to := by simpa using he
            refine Tt.bnd gm (Tt.bnd gi' ?_)
            rw [← j3, ← j3']
            refine Tt.bif (fun hc => ?_) (fun hc => ?_)
            · have hc := of_decide_eq_true hc
              exact hnew (.inr ⟨he.symm, by omega⟩)
            · have hc := of_decide_eq_false hc
              exact hold (.inr ⟨he, by omega⟩)
          · have he : (hd h m).reach.to ≠ (hd h i).reach.to := by simpa using he
            exact hold (.inl (by omega))
      · have h0 := of_decide_eq_false h0
        have hh : (hd h m).held = false := by
          cases hc : (hd h m).held with
          | false => rfl
          | true =>
            obtain ⟨j, j1, j2, _⟩ := hval m hm hc
            omega
        refine hkk4 _ ?_
        rcases r2 with ⟨e, f⟩ | ⟨i, i1, i2, i3, i4⟩
        · refine .inl ⟨e, fun i hi => ?_⟩
          by_cases him : i = m
          · rw [him]; exact hh
          · exact f i (by omega)
        · refine .inr ⟨i, by omega, i2, i3, fun j a b => ?_⟩
          by_cases hjm : j = m
          · rw [hjm, hh] at b; cases b
          · exact i4 j (by omega) b
    rintro ⟨x17, x18⟩ ⟨r1, r2⟩
    dsimp only at r1 r2
    subst r1
    refine ⟨c0 (dge _), ?_⟩
    dsimp only [Lp.thn]
    have hsl := hdsk.seats
    have hwc : IntKind.wrap .i64 (d0.came + 1) = ((k + 1 : Nat) : Int) := by rw [hcam.came, wk1 (by omega)]
    -- a range takes a machine's register
    have htake : ∀ (i : Nat) (g : ref24Given) (dm : AllocDesk), i < n → dm.hold = h → dm.came = IntKind.wrap .i64 (d0.came + 1) → g.Seats = dm.seats → g.Slots = dm.slots → dm.seats.length = R → d1 = takeF dm i (gR ord k) →
        Tt (bif decide ((i : Int) < 0) then ((idx g.Seats w.R).bind fun u26 => (idx g.Seats w.R).bind fun u27 => kk1 x11 (⟨List.set g.Seats (Int.toNat w.R) (⟨0, g.Slots⟩ : Seat), IntKind.wrap .i64 (g.Slots + 1)⟩ : ref24Given)) else ((idx x11 (i : Int)).bind fun u28 => (idx x11 (i : Int)).bind fun u29 => (ref24_Name (i : Int)).bind fun y2 => (idx g.Seats w.R).bind fun u30 => (idx g.Seats w.R).bind fun u31 => kk1 (List.set x11 (Int.toNat (i : Int)) (IntKind.wrap .i64 ((k : Int) + 1))) (⟨List.set g.Seats (Int.toNat w.R) (⟨y2, (-1)⟩ : Seat), g.Slots⟩ : ref24Given))) (fun z => ∃ t', z = .go t' ∧ SimP n (k + 1) d1 t') := by
      intro i g dm hi e1 e2 e3 e4 e5 e6
      refine Tt.bif (fun h => by have := of_decide_eq_true h; omega) (fun _ => ?_)
      refine Tt.bnd (gi_at (by omega)) (Tt.bnd (gi_at (by omega)) (Tt.bnd (nm_name (by omega)) ?_))
      obtain ⟨r, hr'⟩ : ∃ r : Nat, w.R = (r : Int) := ⟨w.R.toNat, by omega⟩
      rw [hr', e3]
      refine Tt.bnd (st_at (by omega)) (Tt.bnd (st_at (by omega)) (hkk1 _ _ ⟨rfl, by simp [t2], fun q hq => ?_, ?_, ?_⟩))
      · dsimp only
        rw [show (i : Int).toNat = i by omega, gi_set (by omega), e6]
        show _ = rv (dm.hold.set i ⟨gR ord k, dm.came, true⟩) q
        unfold rv
        rw [e1, hd_set (by omega)]
        by_cases hqi : q = i
        · rw [if_pos hqi, if_pos hqi, cond_true, wk1 (by omega), e2, hwc]
        · rw [if_neg hqi, if_neg hqi, t3 q hq]
          rfl
      · dsimp only
        rw [e6]
        show _ = dm.seats.set (gR ord k).r.toNat ⟨nmL.getD i 0, -1⟩
        rw [show (r : Int).toNat = (gR ord k).r.toNat by omega]
        rfl
      · dsimp only
        rw [e6]
        exact e4
    refine Tt.jn2 (fun (x21 : Int) (x22 : ref24Given) => (∃ (i : Nat) (dm : AllocDesk), x21 = (i : Int) ∧ i < n ∧ dm.hold = h ∧ dm.came = IntKind.wrap .i64 (d0.came + 1) ∧ x22.Seats = dm.seats ∧ x22.Slots = dm.slots ∧ dm.seats.length = R ∧ d1 = takeF dm i (gR ord k)) ∨ (x21 = -1 ∧ x22 = x7 ∧ d1 = slotF { d0 with hold := h, came := IntKind.wrap .i64 (d0.came + 1) } (gR ord k).r)) (fun kk5 hkk5 => ?_) (fun x21 x22 hx => ?_)
    · rcases hcase with ⟨i, hi, hf, hlo, he⟩ | ⟨hf, hm, he⟩ | ⟨i, hi, hf, hm, hx, he⟩
      · -- one is free
        have e : x12 = (i : Int) := by
          rcases t4 with ⟨e, f⟩ | ⟨i', _, i2, i3, i4, i5⟩
          · have := f i (Nat.zero_le _) hi
            rw [hf] at this; cases this
          · rcases Nat.lt_trichotomy i i' with hlt | heq | hgt
            · have := i5 i (Nat.zero_le _) hlt
              rw [hf] at this; cases this
            · rw [heq]; exact i3
            · have := hlo i' hgt
              rw [i4] at this; cases this
        subst e
        refine Tt.bif (fun h => by have := of_decide_eq_true h; omega) (fun _ => ?_)
        exact hkk5 _ _ (.inl ⟨i, { d0 with hold := h, came := IntKind.wrap .i64 (d0.came + 1) }, rfl, hi, rfl, rfl, s4, s5, hsl, he⟩)
      · have e : x12 = -1 := by
          rcases t4 with ⟨e, f⟩ | ⟨i', _, i2, i3, i4, i5⟩
          · exact e
          · have := hf i' i2
            rw [i4] at this; cases this
        subst e
        have hno : Tt (kk5 (-1) x7) _ := hkk5 _ _ (.inr ⟨rfl, rfl, he⟩)
        refine Tt.bif (fun _ => ?_) (fun h => by cases h)
        rcases r2 with ⟨rfl, r2⟩ | ⟨i, i1, rfl, i3, i4⟩
        · exact Tt.bif (fun h => by cases h) (fun _ => hno)
        · refine Tt.bif (fun _ => ?_) (fun h => by have := of_decide_eq_false h; omega)
          obtain ⟨j, j1, j2, j3⟩ := hheld i i1 i3
          obtain ⟨v, v0, vR, vF, vT⟩ := hyw j (by omega)
          refine Tt.bnd (gi_at (by omega)) ?_
          rw [t3 i i1, show rv h i = ((j + 1 : Nat) : Int) by unfold rv; rw [i3, cond_true, j2], wz j (by omega) (by omega)]
          refine Tt.bnd v0 ?_
          have := hm i i1
          rw [j3] at this
          exact Tt.bif (fun h => by have := of_decide_eq_true h; omega) (fun _ => hno)
      · have e : x12 = -1 := by
          rcases t4 with ⟨e, f⟩ | ⟨i', _, i2, i3, i4, i5⟩
          · exact e
          · have := hf i' i2
            rw [i4] at this; cases this
        subst e
        refine Tt.bif (fun _ => ?_) (fun h => by cases h)
        rcases r2 with ⟨rfl, r2⟩ | ⟨i', i1, rfl, i3, i4⟩
        · have := r2 i hi
          rw [hf i hi] at this; cases this
        · have hii : i' = i := by
            have a := hm i' i1
            have b := i4 i hi (hf i hi)
            exact hdist i' i i1 hi i3 (hf i hi) (by omega)
          subst hii
          refine Tt.bif (fun _ => ?_) (fun h => by have := of_decide_eq_false h; omega)
          obtain ⟨j, j1, j2, j3⟩ := hheld i' i1 i3
          obtain ⟨v, v0, vR, vF, vT⟩ := hyw j (by omega)
          have gm : idx x11 (i' : Int) = some ((j + 1 : Nat) : Int) := by rw [gi_at (by omega), t3 i' i1]; unfold rv; rw [i3, cond_true, j2]
          have wj : IntKind.wrap .i64 (((j + 1 : Nat) : Int) - 1) = (j : Int) := wz j (by omega) (by omega)
          refine Tt.bnd gm ?_
          rw [wj]
          refine Tt.bnd v0 ?_
          have hjr := (ho.reg hX (show j < ord.length by omega)).1
          unfold InR at hjr
          refine Tt.bif (fun _ => ?_) (fun h => by have := of_decide_eq_false h; rw [j3] at hx; omega)
          refine Tt.bnd gm ?_
          rw [wj]
          obtain ⟨r, hr'⟩ : ∃ r : Nat, v.R = (r : Int) := ⟨v.R.toNat, by omega⟩
          refine Tt.bnd v0 ?_
          rw [hr', s4]
          refine Tt.bnd (st_at (by omega)) (Tt.bnd (st_at (by omega)) ?_)
          refine hkk5 _ _ (.inl ⟨i', slotF { d0 with hold := h, came := IntKind.wrap .i64 (d0.came + 1) } (hd h i').reach.r, rfl, hi, rfl, rfl, ?_, ?_, by simp [slotF, hsl], he⟩)
          · show List.set d0.seats (Int.toNat (r : Int)) ⟨0, x7.Slots⟩ = List.set d0.seats (hd h i').reach.r.toNat ⟨0, d0.slots⟩
            rw [s5, j3, ← vR, hr']
          · show IntKind.wrap .i64 (x7.Slots + 1) = IntKind.wrap .i64 (d0.slots + 1)
            rw [s5]
    · rcases hx with ⟨i, dm, rfl, e1, e2, e3, e4, e5, e6, e7⟩ | ⟨rfl, rfl, e⟩
      · exact htake i x22 dm e1 e2 e3 e4 e5 e6 e7
      · refine Tt.bif (fun _ => ?_) (fun h => by cases h)
        obtain ⟨r, hr'⟩ : ∃ r : Nat, w.R = (r : Int) := ⟨w.R.toNat, by omega⟩
        rw [hr', s4]
        refine Tt.bnd (st_at (by omega)) (Tt.bnd (st_at (by omega)) (hkk1 _ _ ⟨rfl, t2, fun q hq => ?_, ?_, ?_⟩))
        · rw [e]
          exact t3 q hq
        · rw [e]
          show List.set d0.seats (Int.toNat (r : Int)) ⟨0, x22.Slots⟩ = List.set d0.seats (gR ord k).r.toNat ⟨0, d0.slots⟩
          rw [s5, ← hwR, hr']
        · rw [e]
          show IntKind.wrap .i64 (x22.Slots + 1) = IntKind.wrap .i64 (d0.slots + 1)
          rw [s5]
  · rintro ⟨x4, x6, x7⟩ ⟨s1, s2, s3, s4, s5⟩
    dsimp only at s1 s2 s3 s4 s5
    subst s1
    rw [q1] at s4 s5
    exact ⟨c0 (dge _), Tt.som ⟨s4, s5⟩⟩
end Go.Proofs.YteoihjfnojgnnaaGreat
