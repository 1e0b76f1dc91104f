/- Plain laws on a walk over ranges: ranges that have a point in common have different seats. No program is in sight here. -/
import Derived.Test.YteoihjfnojgnnaaGreatL24w
set_option linter.unusedVariables false
namespace Go.Proofs.YteoihjfnojgnnaaGreat

theorem nm_big : ∀ k, k < 12 → 8 ≤ nmL.getD k 0 := by decide
theorem nm_inj : ∀ i, i < 12 → ∀ j, j < 12 → nmL.getD i 0 = nmL.getD j 0 → i = j := by decide
/-- What holds of a walk after k steps. -/
structure ScanP (n R : Nat) (ord : List AllocReach) (k : Nat) (d : AllocDesk) : Prop where
  kind : ∀ i, i < k → (∃ s : Int, 0 ≤ s ∧ s < d.slots ∧ sR d.seats (gR ord i).r.toNat = ⟨0, s⟩) ∨ ∃ h, h < n ∧ sR d.seats (gR ord i).r.toNat = ⟨nmL.getD h 0, -1⟩
  held : ∀ h, h < n → (hd d.hold h).held = true → ∃ i, i < k ∧ (hd d.hold h).reach = gR ord i ∧ sR d.seats (gR ord i).r.toNat = ⟨nmL.getD h 0, -1⟩
  ended : ∀ i h, i < k → h < n → sR d.seats (gR ord i).r.toNat = ⟨nmL.getD h 0, -1⟩ → ((hd d.hold h).held = true ∧ (hd d.hold h).reach = gR ord i) ∨ ∀ j, k ≤ j → j < ord.length → (gR ord i).to < (gR ord j).from_
  pairs : ∀ i j, i < j → j < k → (gR ord j).from_ ≤ (gR ord i).to → sR d.seats (gR ord i).r.toNat ≠ sR d.seats (gR ord j).r.toNat
  few : 0 ≤ d.slots ∧ d.slots ≤ k
theorem scan_t {R n : Nat} {X : Nat → RX} {ord : List AllocReach} (hn : n ≤ 12) (ho : OrdP R X ord) (hX : RegX X) (hR : R ≤ 40) {k : Nat} {d : AllocDesk} (h : WalkP n ord (D0 R n) k d) (hk : k ≤ ord.length) : ScanP n R ord k d := by
  have hol := ho.len
  have hreg := fun j (hj : j < ord.length) => (ho.reg hX hj).1
  have hsort : ∀ i j, i < j → j < ord.length → (gR ord i).from_ ≤ (gR ord j).from_ := by
    intro i j h1 h2
    have := ltb_f (ho.srt i j (Nat.zero_le _) h1 h2)
    omega
  induction h with
  | nil =>
    have h0 : ∀ q, (hd (D0 R n).hold q).held = false := by
      intro q
      unfold hd D0
      rw [List.getD_eq_getElem?_getD, List.getElem?_replicate]
      split <;> rfl
    exact ⟨fun i hi => by omega, fun h _ hh => (by rw [h0] at hh; cases hh), fun i h hi => (by omega), fun i j h1 h2 => (by omega), ⟨Int.le_refl _, Int.le_refl _⟩⟩
  | @step k d d' hw hs ih =>
    obtain ⟨i1, i2, i3, i4, i5⟩ := ih (by omega)
    have hdsk := hw.dsk hn ho hX (by omega)
    have hsl := hdsk.seats
    -- the holders when the range begins
    have hrel : ∀ (h : List AllocHolder), (∀ q, q < n → hd h q = rel (hd d.hold q) (gR ord k).from_) →
        (∀ q, q < n → (hd h q).held = true → ∃ i, i < k ∧ (hd h q).reach = gR ord i ∧ sR d.seats (gR ord i).r.toNat = ⟨nmL.getD q 0, -1⟩) ∧
        (∀ i q, i < k → q < n → sR d.seats (gR ord i).r.toNat = ⟨nmL.getD q 0, -1⟩ → ((hd h q).held = true ∧ (hd h q).reach = gR ord i) ∨ ∀ j, k ≤ j → j < ord.length → (gR ord i).to < (gR ord j).from_) := by
      intro h hr
      refine ⟨fun q hq hh => ?_, fun i q hi hq hs => ?_⟩
      · rw [hr q hq] at hh ⊢
        have h0 := rel_held hh
        have : rel (hd d.hold q) (gR ord k).from_ = hd d.hold q := by
          unfold rel at hh ⊢
          cases hc : ((hd d.hold q).held && decide ((hd d.hold q).reach.to < (gR ord k).from_)) with
          | true => rw [hc] at hh; cases hh
          | false => rfl
        rw [this]
        exact i2 q hq h0
      · rcases i3 i q hi hq hs with ⟨h1, h2⟩ | h1
        · rw [hr q hq]
          unfold rel
          cases hc : ((hd d.hold q).held && decide ((hd d.hold q).reach.to < (gR ord k).from_)) with
          | true =>
            right
            simp only [Bool.and_eq_true, decide_eq_true_eq] at hc
            intro j hj1 hj2
            rw [h2] at hc
            by_cases hjk : j = k
            · rw [hjk]; exact hc.2
            · have := hsort k j (by omega) hj2
              omega
          | false => exact .inl ⟨h1, h2⟩
        · exact .inr h1
    have hkr := hreg k (by omega)
    unfold InR at hkr
    have hklt : (gR ord k).r.toNat < d.seats.length := by omega
    have hother : ∀ i, i < k → (gR ord i).r.toNat ≠ (gR ord k).r.toNat := by
      intro i hi
      have h1 := ho.ne hX (show i < ord.length by omega) (show k < ord.length by omega) (by omega)
      have h2 := hreg i (by omega)
      unfold InR at h2
      omega
    cases hs with
    | free h i0 hl hr hi hf hlo he =>
      subst he
      obtain ⟨j2, j3⟩ := hrel h hr
      have s0 : ∀ i, i < k → sR (d.seats.set (gR ord k).r.toNat ⟨nmL.getD i0 0, -1⟩) (gR ord i).r.toNat = sR d.seats (gR ord i).r.toNat := fun i hi => by rw [st_set hklt, if_neg (hother i hi)]
      have s1 : sR (d.seats.set (gR ord k).r.toNat ⟨nmL.getD i0 0, -1⟩) (gR ord k).r.toNat = ⟨nmL.getD i0 0, -1⟩ := by rw [st_set hklt, if_pos rfl]
      refine ⟨fun i hi2 => ?_, fun q hq hh => ?_, fun i q hi2 hq hs => ?_, fun i j hij hj hov => ?_, by have := i5.1; have := i5.2; constructor <;> (show _ ≤ _) <;> simp only [takeF] <;> omega⟩
      · show (∃ s : Int, 0 ≤ s ∧ s < d.slots ∧ sR (d.seats.set (gR ord k).r.toNat ⟨nmL.getD i0 0, -1⟩) (gR ord i).r.toNat = ⟨0, s⟩) ∨ ∃ h, h < n ∧ sR (d.seats.set (gR ord k).r.toNat ⟨nmL.getD i0 0, -1⟩) (gR ord i).r.toNat = ⟨nmL.getD h 0, -1⟩
        by_cases hik : i = k
        · rw [hik, s1]; exact .inr ⟨i0, hi, rfl⟩
        · rw [s0 i (by omega)]; exact i1 i (by omega)
      · have hh : (hd (h.set i0 ⟨gR ord k, IntKind.wrap .i64 (d.came + 1), true⟩) q).held = true := hh
        show ∃ i, i < k + 1 ∧ (hd (h.set i0 ⟨gR ord k, IntKind.wrap .i64 (d.came + 1), true⟩) q).reach = gR ord i ∧ sR (d.seats.set (gR ord k).r.toNat ⟨nmL.getD i0 0, -1⟩) (gR ord i).r.toNat = ⟨nmL.getD q 0, -1⟩
        rw [hd_set (by omega)] at hh ⊢
        by_cases hqi : q = i0
        · rw [if_pos hqi]; exact ⟨k, by omega, rfl, by rw [s1, hqi]⟩
        · rw [if_neg hqi] at hh ⊢
          obtain ⟨i, k1, k2, k3⟩ := j2 q hq hh
          exact ⟨i, by omega, k2, by rw [s0 i k1]; exact k3⟩
      · have hs : sR (d.seats.set (gR ord k).r.toNat ⟨nmL.getD i0 0, -1⟩) (gR ord i).r.toNat = ⟨nmL.getD q 0, -1⟩ := hs
        show ((hd (h.set i0 ⟨gR ord k, IntKind.wrap .i64 (d.came + 1), true⟩) q).held = true ∧ (hd (h.set i0 ⟨gR ord k, IntKind.wrap .i64 (d.came + 1), true⟩) q).reach = gR ord i) ∨ _
        rw [hd_set (by omega)]
        by_cases hik : i = k
        · rw [hik, s1] at hs
          have : i0 = q := nm_inj _ (by omega) _ (by omega) (by injection hs)
          rw [if_pos this.symm, hik]
          exact .inl ⟨rfl, rfl⟩
        · rw [s0 i (by omega)] at hs
          rcases j3 i q (by omega) hq hs with h1 | h1
          · by_cases hqi : q = i0
            · rw [hqi, hf] at h1; cases h1.1
            · rw [if_neg hqi]; exact .inl h1
          · exact .inr fun j hj1 hj2 => h1 j (by omega) hj2
      · show sR (d.seats.set (gR ord k).r.toNat ⟨nmL.getD i0 0, -1⟩) (gR ord i).r.toNat ≠ sR (d.seats.set (gR ord k).r.toNat ⟨nmL.getD i0 0, -1⟩) (gR ord j).r.toNat
        rw [s0 i (by omega)]
        by_cases hjk : j = k
        · subst hjk
          rw [s1]
          intro hs
          rcases j3 i i0 (by omega) hi hs with h1 | h1
          · rw [hf] at h1; cases h1.1
          · have := h1 j (Nat.le_refl _) (by omega); omega
        · rw [s0 j (by omega)]; exact i4 i j hij (by omega) hov
    | slot h hl hr hf hm he =>
      subst he
      obtain ⟨j2, j3⟩ := hrel h hr
      have s0 : ∀ i, i < k → sR (d.seats.set (gR ord k).r.toNat ⟨0, d.slots⟩) (gR ord i).r.toNat = sR d.seats (gR ord i).r.toNat := fun i hi => by rw [st_set hklt, if_neg (hother i hi)]
      have s1 : sR (d.seats.set (gR ord k).r.toNat ⟨0, d.slots⟩) (gR ord k).r.toNat = ⟨0, d.slots⟩ := by rw [st_set hklt, if_pos rfl]
      have hsw : IntKind.wrap .i64 (d.slots + 1) = d.slots + 1 := w64 (by omega)
      refine ⟨fun i hi2 => ?_, fun q hq hh => ?_, fun i q hi2 hq hs => ?_, fun i j hij hj hov => ?_, ?_⟩
      · show (∃ s : Int, 0 ≤ s ∧ s < IntKind.wrap .i64 (d.slots + 1) ∧ sR (d.seats.set (gR ord k).r.toNat ⟨0, d.slots⟩) (gR ord i).r.toNat = ⟨0, s⟩) ∨ ∃ h, h < n ∧ sR (d.seats.set (gR ord k).r.toNat ⟨0, d.slots⟩) (gR ord i).r.toNat = ⟨nmL.getD h 0, -1⟩
        rw [hsw]
        by_cases hik : i = k
        · rw [hik, s1]; exact .inl ⟨d.slots, i5.1, by omega, rfl⟩
        · rw [s0 i (by omega)]
          rcases i1 i (by omega) with ⟨s, e1, e2, e3⟩ | h1
          · exact .inl ⟨s, e1, by omega, e3⟩
          · exact .inr h1
      · obtain ⟨i, k1, k2, k3⟩ := j2 q hq hh
        exact ⟨i, by omega, k2, (s0 i k1).trans k3⟩
      · have hs : sR (d.seats.set (gR ord k).r.toNat ⟨0, d.slots⟩) (gR ord i).r.toNat = ⟨nmL.getD q 0, -1⟩ := hs
        by_cases hik : i = k
        · rw [hik, s1] at hs
          have h1 : (0 : Int) = nmL.getD q 0 := by injection hs
          have := nm_big q (by omega)
          omega
        · rw [s0 i (by omega)] at hs
          rcases j3 i q (by omega) hq hs with h1 | h1
          · exact .inl h1
          · exact .inr fun j hj1 hj2 => h1 j (by omega) hj2
      · show sR (d.seats.set (gR ord k).r.toNat ⟨0, d.slots⟩) (gR ord i).r.toNat ≠ sR (d.seats.set (gR ord k).r.toNat ⟨0, d.slots⟩) (gR ord j).r.toNat
        rw [s0 i (by omega)]
        by_cases hjk : j = k
        · rw [hjk, s1]
          intro hs
          rcases i1 i (by omega) with ⟨s, e1, e2, e3⟩ | ⟨q, e1, e2⟩
          · rw [e3] at hs
            have : s = d.slots := by injection hs
            omega
          · rw [e2] at hs
            have h1 : nmL.getD q 0 = 0 := by injection hs
            have := nm_big q (by omega)
            omega
        · rw [s0 j (by omega)]; exact i4 i j hij (by omega) hov
      · show 0 ≤ IntKind.wrap .i64 (d.slots + 1) ∧ IntKind.wrap .i64 (d.slots + 1) ≤ ((k + 1 : Nat) : Int)
        rw [hsw]
        omega
    | spill h i0 hl hr hf hi hm hx he =>
      subst he
      obtain ⟨j2, j3⟩ := hrel h hr
      obtain ⟨y, y1, y2, y3⟩ := j2 i0 hi (hf i0 hi)
      have hyr := hreg y (by omega)
      unfold InR at hyr
      have hylt : (gR ord y).r.toNat < d.seats.length := by omega
      have hxlt : (gR ord k).r.toNat < (d.seats.set (gR ord y).r.toNat ⟨0, d.slots⟩).length := by rw [List.length_set]; exact hklt
      have hyo : ∀ i, i < ord.length → i ≠ y → (gR ord i).r.toNat ≠ (gR ord y).r.toNat := by
        intro i hi hne
        have h1 := ho.ne hX hi (show y < ord.length by omega) hne
        have h2 := hreg i hi
        unfold InR at h2
        omega
      have s0 : ∀ i, i < k → i ≠ y → sR ((d.seats.set (gR ord y).r.toNat ⟨0, d.slots⟩).set (gR ord k).r.toNat ⟨nmL.getD i0 0, -1⟩) (gR ord i).r.toNat = sR d.seats (gR ord i).r.toNat := fun i hi hne => by
        rw [st_set hxlt, if_neg (hother i hi), st_set hylt, if_neg (hyo i (by omega) hne)]
      have s1 : sR ((d.seats.set (gR ord y).r.toNat ⟨0, d.slots⟩).set (gR ord k).r.toNat ⟨nmL.getD i0 0, -1⟩) (gR ord k).r.toNat = ⟨nmL.getD i0 0, -1⟩ := by rw [st_set hxlt, if_pos rfl]
      have s2 : sR ((d.seats.set (gR ord y).r.toNat ⟨0, d.slots⟩).set (gR ord k).r.toNat ⟨nmL.getD i0 0, -1⟩) (gR ord y).r.toNat = ⟨0, d.slots⟩ := by
        rw [st_set hxlt, if_neg (hother y y1), st_set hylt, if_pos rfl]
      have hsw : IntKind.wrap .i64 (d.slots + 1) = d.slots + 1 := w64 (by omega)
      have e0 : takeF (slotF { d with hold := h, came := IntKind.wrap .i64 (d.came + 1) } (hd h i0).reach.r) i0 (gR ord k) = ⟨h.set i0 ⟨gR ord k, IntKind.wrap .i64 (d.came + 1), true⟩, d.regs, (d.seats.set (gR ord y).r.toNat ⟨0, d.slots⟩).set (gR ord k).r.toNat ⟨nmL.getD i0 0, -1⟩, IntKind.wrap .i64 (d.slots + 1), IntKind.wrap .i64 (d.came + 1)⟩ := by
        unfold takeF slotF
        rw [y2]
      rw [e0]
      refine ⟨fun i hi2 => ?_, fun q hq hh => ?_, fun i q hi2 hq hs => ?_, fun i j hij hj hov => ?_, ?_⟩
      · dsimp only
        rw [hsw]
        by_cases hik : i = k
        · rw [hik, s1]; exact .inr ⟨i0, hi, rfl⟩
        · by_cases hiy : i = y
          · rw [hiy, s2]; exact .inl ⟨d.slots, i5.1, by omega, rfl⟩
          · rw [s0 i (by omega) hiy]
            rcases i1 i (by omega) with ⟨s, e1, e2, e3⟩ | h1
            · exact .inl ⟨s, e1, by omega, e3⟩
            · exact .inr h1
      · dsimp only at hh ⊢
        rw [hd_set (by omega)] at hh ⊢
        by_cases hqi : q = i0
        · rw [if_pos hqi]; exact ⟨k, by omega, rfl, by rw [s1, hqi]⟩
        · rw [if_neg hqi] at hh ⊢
          obtain ⟨i, k1, k2, k3⟩ := j2 q hq hh
          have hiy : i ≠ y := by
            intro hiy
            rw [hiy, y3] at k3
            exact hqi (nm_inj q (by omega) i0 (by omega) (by injection k3 with k3; exact k3.symm))
          exact ⟨i, by omega, k2, by rw [s0 i k1 hiy]; exact k3⟩
      · dsimp only at hs ⊢
        rw [hd_set (by omega)]
        by_cases hik : i = k
        · rw [hik, s1] at hs
          have : i0 = q := nm_inj _ (by omega) _ (by omega) (by injection hs)
          rw [if_pos this.symm, hik]
          exact .inl ⟨rfl, rfl⟩
        · by_cases hiy : i = y
          · rw [hiy, s2] at hs
            have h1 : (0 : Int) = nmL.getD q 0 := by injection hs
            have := nm_big q (by omega)
            omega
          · rw [s0 i (by omega) hiy] at hs
            rcases j3 i q (by omega) hq hs with h1 | h1
            · by_cases hqi : q = i0
              · exfalso
                rw [hqi, y2] at h1
                have h2 : (gR ord y).r = (gR ord i).r := congrArg AllocReach.r h1.2
                exact ho.ne hX (show y < ord.length by omega) (show i < ord.length by omega) (fun e => hiy e.symm) h2
              · rw [if_neg hqi]; exact .inl h1
            · exact .inr fun j hj1 hj2 => h1 j (by omega) hj2
      · dsimp only
        have slotne : ∀ i, i < k → i ≠ y → sR d.seats (gR ord i).r.toNat ≠ ⟨0, d.slots⟩ := by
          intro i hi2 hiy hs
          rcases i1 i hi2 with ⟨s, e1, e2, e3⟩ | ⟨q, e1, e2⟩
          · rw [e3] at hs
            have : s = d.slots := by injection hs
            omega
          · rw [e2] at hs
            have h1 : nmL.getD q 0 = 0 := by injection hs
            have := nm_big q (by omega)
            omega
        by_cases hjk : j = k
        · subst hjk
          rw [s1]
          by_cases hiy : i = y
          · rw [hiy, s2]
            intro hs
            have h1 : (0 : Int) = nmL.getD i0 0 := by injection hs
            have := nm_big i0 (by omega)
            omega
          · rw [s0 i hij hiy]
            intro hs
            rcases j3 i i0 hij hi hs with h1 | h1
            · rw [y2] at h1
              have h2 : (gR ord y).r = (gR ord i).r := congrArg AllocReach.r h1.2
              exact ho.ne hX (show y < ord.length by omega) (show i < ord.length by omega) (fun e => hiy e.symm) h2
            · have := h1 j (Nat.le_refl _) (by omega); omega
        · by_cases hiy : i = y
          · rw [hiy, s2]
            by_cases hjy : j = y
            · omega
            · rw [s0 j (by omega) hjy]
              exact fun hs => slotne j (by omega) hjy hs.symm
          · rw [s0 i (by omega) hiy]
            by_cases hjy : j = y
            · rw [hjy, s2]; exact slotne i (by omega) hiy
            · rw [s0 j (by omega) hjy]; exact i4 i j hij (by omega) hov
      · dsimp only
        rw [hsw]
        omega
/-- A point is in a range. -/
def Cov (x : RX) (n : Int) : Prop := x.Is = true ∧ x.From ≤ n ∧ n ≤ x.To
theorem OrdP.at {R : Nat} {X : Nat → RX} {ord : List AllocReach} (ho : OrdP R X ord) {q : Nat} (hq : q < R) (h : (X q).Is = true) : ∃ i, i < ord.length ∧ gR ord i = cvX (X q) := by
  have hm : cvX (X q) ∈ ord := ho.perm.mem_iff.2 (List.mem_filter.2 ⟨List.mem_map.2 ⟨q, by simpa using hq, rfl⟩, h⟩)
  obtain ⟨i, hi, he⟩ := List.getElem_of_mem hm
  exact ⟨i, hi, by rw [gt_at hi]; exact he⟩
theorem seat_t {R n : Nat} {X : Nat → RX} {z : List Seat × Int × Int} (hn : n ≤ 12) (hX : RegX X) (hR : R ≤ 40) (h : SeatP R n X z) : z.1.length = R ∧ (∀ q, q < R → (X q).Is = true → sR z.1 q ≠ ⟨0, -1⟩) ∧ ∀ q q' t, q < R → q' < R → q ≠ q' → Cov (X q) t → Cov (X q') t → sR z.1 q ≠ sR z.1 q' := by
  obtain ⟨h1, ord, d, ho, hw, hz, _⟩ := h
  have hs := scan_t hn ho hX hR hw (Nat.le_refl _)
  have hl := (hw.dsk hn ho hX (Nat.le_refl _)).seats
  rw [hz]
  have hr : ∀ q i, gR ord i = cvX (X q) → (gR ord i).r.toNat = q := by
    intro q i he
    rw [he]
    show (X q).R.toNat = q
    rw [hX q]
    omega
  refine ⟨hl, fun q hq hi => ?_, fun q q' t hq hq' hne c1 c2 => ?_⟩
  · obtain ⟨i, i1, i2⟩ := ho.at hq hi
    rw [← hr q i i2]
    intro he
    rcases hs.kind i i1 with ⟨s, e1, e2, e3⟩ | ⟨h, e1, e2⟩
    · rw [e3] at he
      have : s = -1 := by injection he
      omega
    · rw [e2] at he
      have h1 : nmL.getD h 0 = 0 := by injection he
      have := nm_big h (by omega)
      omega
  · obtain ⟨i, i1, i2⟩ := ho.at hq c1.1
    obtain ⟨j, j1, j2⟩ := ho.at hq' c2.1
    rw [← hr q i i2, ← hr q' j j2]
    have hov : (gR ord j).from_ ≤ (gR ord i).to ∧ (gR ord i).from_ ≤ (gR ord j).to := by
      rw [i2, j2]
      show (X q').From ≤ (X q).To ∧ (X q).From ≤ (X q').To
      obtain ⟨_, a1, a2⟩ := c1
      obtain ⟨_, b1, b2⟩ := c2
      omega
    rcases Nat.lt_trichotomy i j with h | h | h
    · exact hs.pairs i j h j1 hov.1
    · exfalso
      have a := hr q i i2
      have b := hr q' j j2
      rw [h] at a
      omega
    · exact fun e => hs.pairs j i h i1 hov.2 e.symm
end Go.Proofs.YteoihjfnojgnnaaGreat
