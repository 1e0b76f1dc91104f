/- Plain law: the seat of each register is the document's, and so is what is spilled and given. No program is in sight here. -/
import Derived.Test.YteoihjfnojgnnaaGreatL24q
set_option linter.unusedVariables false
namespace Go.Proofs.YteoihjfnojgnnaaGreat

theorem lt_of_some {α : Type} {l : List α} {k : Nat} {x : α} (h : l[k]? = some x) : k < l.length := by
  rcases Nat.lt_or_ge k l.length with h' | h'
  · exact h'
  · rw [List.getElem?_eq_none h'] at h; cases h
theorem rest_t {R n : Nat} {X : Nat → RX} {ord : List AllocReach} (hn : n ≤ 12) (ho : OrdP R X ord) (hX : RegX X) (hR : R ≤ 40) {k : Nat} {d : AllocDesk} (h : WalkP n ord (D0 R n) k d) (hk : k ≤ ord.length) : ∀ q : Nat, q < R → (∀ j, j < k → (gR ord j).r ≠ (q : Int)) → sR d.seats q = ⟨0, -1⟩ := by
  have hol := ho.len
  induction h with
  | nil =>
    intro q hq _
    unfold sR D0
    rw [List.getD_eq_getElem?_getD, List.getElem?_replicate, if_pos hq]
    rfl
  | @step k d d' hw hs ih =>
    have ih := ih (by omega)
    have hcam := cam_t hn ho hR hw (by omega)
    have hsl := (hw.dsk hn ho hX (by omega)).seats
    obtain ⟨h, hl, hr, hcase⟩ := hs.all
    have hkr := (ho.reg hX (show k < ord.length by omega)).1
    unfold InR at hkr
    intro q hq hne
    have h0 := ih q hq fun j hj => hne j (by omega)
    have hkq := hne k (by omega)
    rcases hcase with ⟨i, hi, hf, hlo, he⟩ | ⟨hf, hm, he⟩ | ⟨i, hi, hf, hm, hx, he⟩
    · rw [he]
      show sR (d.seats.set (gR ord k).r.toNat _) q = _
      rw [st_set (by omega), if_neg (by omega)]
      exact h0
    · rw [he]
      show sR (d.seats.set (gR ord k).r.toNat _) q = _
      rw [st_set (by omega), if_neg (by omega)]
      exact h0
    · have hh := hf i hi
      rw [hr i hi] at hh
      have e := rel_same hh
      rw [e] at hh
      obtain ⟨j, j1, j2, j3⟩ := hcam.held i hi hh
      have hjr := (ho.reg hX (show j < ord.length by omega)).1
      unfold InR at hjr
      have hjq := hne j (by omega)
      rw [he]
      show sR ((d.seats.set (hd h i).reach.r.toNat _).set (gR ord k).r.toNat _) q = _
      rw [hr i hi, e, j3, st_set (by rw [List.length_set]; omega), if_neg (by omega), st_set (by omega), if_neg (by omega)]
      exact h0
theorem kinds_t {R n : Nat} {X : Nat → RX} {ord : List AllocReach} {d : AllocDesk} (hn : n ≤ 12) (ho : OrdP R X ord) (hX : RegX X) (hR : R ≤ 40) (hw : WalkP n ord (D0 R n) ord.length d) : ∀ s ∈ d.seats, (s.Reg = 0 ∧ -1 ≤ s.Slot) ∨ s.Reg ∈ nm := by
  have hs := scan_t hn ho hX hR hw (Nat.le_refl _)
  have hr := rest_t hn ho hX hR hw (Nat.le_refl _)
  have hsl := (hw.dsk hn ho hX (Nat.le_refl _)).seats
  intro s hsm
  obtain ⟨q, hq, rfl⟩ := List.getElem_of_mem hsm
  have e : d.seats[q] = sR d.seats q := by
    unfold sR
    rw [List.getD_eq_getElem?_getD, List.getElem?_eq_getElem hq]
    rfl
  rw [e]
  by_cases hex : ∃ j, j < ord.length ∧ (gR ord j).r = (q : Int)
  · obtain ⟨j, j1, j2⟩ := hex
    have hk := hs.kind j j1
    rw [show (gR ord j).r.toNat = q by omega] at hk
    rcases hk with ⟨t, t1, t2, t3⟩ | ⟨h, h1, h2⟩
    · rw [t3]; exact .inl ⟨rfl, by show -1 ≤ t; omega⟩
    · rw [h2]
      right
      show nmL.getD h 0 ∈ nm
      have : ∀ h, h < 12 → nmL.getD h 0 ∈ nm := by decide
      exact this h (by omega)
  · rw [hr q (by omega) fun j hj hjq => hex ⟨j, hj, hjq⟩]
    exact .inl ⟨rfl, by decide⟩
def spL (l : List Seat) : List Bool := l.map (fun s => bif s.Reg == 0 then s.Slot != (-1) else false)
theorem Spilled_eq (l : List Seat) (hl : l.length ≤ 60) : alloc_Spilled l = some (spL l) := by
  unfold alloc_Spilled
  refine map_bind l (fun s => bif s.Reg == 0 then s.Slot != (-1) else false) (by omega) (fun k hk => ?_) (c0 (dge _)) rfl
  refine (c1 (dlt hk)).trans ?_
  have hlen : ((l.take k).map (fun s : Seat => bif s.Reg == 0 then s.Slot != (-1) else false)).length ≤ 60 := by simp; omega
  rw [idx_get hk, Option.bind_some]
  cases h : (l[k].Reg == 0)
  · rw [cond_false, room_ok (by simp; omega)]; rfl
  · rw [cond_true, room_ok (by simp; omega)]; rfl
theorem AllocAssigns_law (m : GModule) (n regs : Int) (hw : WfM m) : law24_AllocAssigns m n regs = some true := by
  unfold law24_AllocAssigns
  obtain ⟨f, hf, hP⟩ := few_right m n hw
  rw [hf, Option.bind_some, awake_eq]
  cases f with
  | false => rfl
  | true =>
    obtain ⟨p, hp, hR⟩ := hP rfl
    rw [Bool.not_true, cond_false, hp, Option.bind_some]
    by_cases hreg : regs < 0 ∨ 12 < regs
    · by_cases h : regs < 0
      · have : alloc_Assign p regs = some ([], 0, 1) := by unfold alloc_Assign; rw [c1 (dt h)]
        rw [this, Option.bind_some, c1 (dt h)]
        rfl
      · have : alloc_Assign p regs = some ([], 0, 1) := by unfold alloc_Assign; rw [c0 (df h), c1 (dt (by omega))]
        rw [this, Option.bind_some, c0 (df h), c1 (dt (by omega))]
        rfl
    · obtain ⟨k, hk⟩ : ∃ k : Nat, regs = (k : Int) := ⟨regs.toNat, by omega⟩
      subst hk
      obtain ⟨⟨inn, out⟩, hL, hD⟩ := Live_t p hR
      have hD : LvD p p.Regs.toNat inn out := hD
      have hX := allX_R p inn out
      have h40 := hR.regs
      refine Tt.eq ?_
      refine Tt.bind (assign_t p hR inn out hL hD k (by omega)) fun y3 ⟨e3, ord, d, ho, hwk, hz1, hz2⟩ => ?_
      have href := refAssign_t p hR inn out hD k (by omega) ord d ho hwk
      have hl := (hwk.dsk (by omega) ho hX (Nat.le_refl _)).seats
      have hkinds := kinds_t (by omega) ho hX (by omega) hwk
      obtain ⟨l, kk, e⟩ := y3
      dsimp only at e3 hz1 hz2
      subst e3 hz1 hz2
      refine Tt.bif (fun h => by have := of_decide_eq_true h; omega) (fun _ => ?_)
      refine Tt.bif (fun h => by have := of_decide_eq_true h; omega) (fun _ => ?_)
      refine Tt.bind href fun y5 ⟨f1, f2⟩ => ?_
      have hlen : d.seats.length ≤ 40 := by omega
      have hnm : ∀ s ∈ d.seats, s.Reg = 0 ∨ s.Reg ∈ nm := fun s hs => by
        rcases hkinds s hs with h | h
        · exact .inl h.1
        · exact .inr h
      dsimp only
      refine Tt.bnd (Spilled_eq d.seats (by omega)) (Tt.bnd (Given_eq d.seats (by omega) hnm) ?_)
      rw [f1, f2]
      generalize d.seats = l at hlen hnm hkinds
      refine Tt.bif (fun h => by cases h) (fun _ => ?_)
      refine Tt.bif (fun h => by simp at h) (fun _ => ?_)
      refine Tt.bif (fun h => by simp at h) (fun _ => ?_)
      refine Tt.bif (fun h => by simp [spL] at h) (fun _ => ?_)
      refine Tt.cnt l.length (by omega) (fun j t => t = (j : Int)) rfl ?_ ?_
      · rintro j hj _ rfl
        have hgo : Tt (some (Lp.go (IntKind.wrap .i64 ((j : Int) + 1))) : Option (Lp Int Bool)) (fun z => ∃ t', z = .go t' ∧ t' = ((j + 1 : Nat) : Int)) := Tt.som ⟨_, rfl, wk1 (by omega)⟩
        refine Tt.bif (fun _ => ?_) (fun h => by have := of_decide_eq_false h; omega)
        have hgj := idx_get hj
        have hkj := hkinds _ (List.getElem_mem hj)
        have hsp : idx (spL l) (j : Int) = some (bif l[j].Reg == 0 then l[j].Slot != (-1) else false) := by
          rw [idx_get (by simpa [spL] using hj)]
          simp [spL]
        generalize l[j] = s at hgj hkj hsp
        refine Tt.bnd hgj (Tt.bnd hgj ?_)
        refine Tt.bif (fun h => by simp at h) (fun _ => ?_)
        refine Tt.bnd hsp (Tt.bnd hgj ?_)
        refine Tt.bif (fun h0 => ?_) (fun h0 => ?_)
        · refine Tt.bnd hgj ?_
          rw [h0, cond_true]
          refine Tt.bif (fun h => ?_) (fun _ => hgo)
          exfalso
          have h0 : s.Reg = 0 := by simpa using h0
          have hs : -1 ≤ s.Slot := by
            rcases hkj with h | h
            · exact h.2
            · have := nm_pos _ h
              omega
          have : (s.Slot != (-1)) = decide (0 ≤ s.Slot) := by
            by_cases hsl : s.Slot = -1
            · rw [hsl]; rfl
            · rw [dt (by omega)]
              simpa using hsl
          rw [this] at h
          simp at h
        · rw [h0, cond_false]
          exact Tt.bif (fun h => by cases h) (fun _ => hgo)
      · rintro _ rfl
        refine ⟨c0 (dge _), ?_⟩
        dsimp only [Lp.thn]
        have hsav : ∀ i, i ≤ 12 → saved l = (nm.take i).filter (fun n => l.any fun s => s.Reg == n) ++ (nm.drop i).filter (fun n => l.any fun s => s.Reg == n) := by
          intro i _
          unfold saved
          rw [← List.filter_append, List.take_append_drop]
        refine Tt.cnt 12 (by omega) (fun i t => t.2 = (i : Int) ∧ t.1 = (((nm.take i).filter (fun n => l.any fun s => s.Reg == n)).length : Int)) ⟨rfl, rfl⟩ ?_ ?_
        · rintro i hi ⟨x2, x3⟩ ⟨t1, t2⟩
          dsimp only at t1 t2
          subst t1 t2
          have hi' : i < nm.length := hi
          have hcl : ((nm.take i).filter (fun n => l.any fun s => s.Reg == n)).length ≤ 12 := Nat.le_trans (List.length_filter_le _ _) (by simp; omega)
          have hni : nm.getD i 0 = nm[i] := by rw [List.getD_eq_getElem?_getD, List.getElem?_eq_getElem hi']; rfl
          have hsucc : (nm.take (i + 1)).filter (fun n => l.any fun s => s.Reg == n) = (nm.take i).filter (fun n => l.any fun s => s.Reg == n) ++ (bif (l.any fun s => s.Reg == nm[i]) then [nm[i]] else []) := by
            rw [List.take_succ_eq_append_getElem hi', List.filter_append]
            congr 1
          dsimp only
          refine Tt.bif (fun _ => ?_) (fun h => by have := of_decide_eq_false h; omega)
          refine Tt.jn1 (fun x4 : Int => x4 = (((nm.take (i + 1)).filter (fun n => l.any fun s => s.Reg == n)).length : Int)) (fun kk1 hkk1 => ?_) (fun x4 h => Tt.som ⟨_, rfl, wk1 (by omega), h⟩)
          refine Tt.cnt l.length (by omega) (fun j t => t = ((l.take j).any (fun s => s.Reg == nm[i]), (j : Int))) (by simp) ?_ ?_
          · rintro j hj _ rfl
            refine Tt.bif (fun _ => ?_) (fun h => by have := of_decide_eq_false h; omega)
            have hts : (l.take (j + 1)).any (fun s => s.Reg == nm[i]) = ((l.take j).any (fun s => s.Reg == nm[i]) || (l[j].Reg == nm[i])) := by
              rw [List.take_succ_eq_append_getElem hj, List.any_append]
              simp
            refine Tt.bif (fun h => ?_) (fun h => ?_)
            · have h : (l.take j).any (fun s => s.Reg == nm[i]) = true := h
              refine Tt.som ⟨_, rfl, ?_⟩
              rw [hts, h, wk1 (by omega)]
              rfl
            · have h : (l.take j).any (fun s => s.Reg == nm[i]) = false := h
              refine Tt.bnd (idx_get hj) (Tt.bnd (nm_name hi) (Tt.som ⟨_, rfl, ?_⟩))
              rw [hts, h, wk1 (by omega), hni]
              rfl
          · rintro _ rfl
            refine ⟨c0 (dge _), ?_⟩
            rw [List.take_length]
            dsimp only [Lp.thn]
            refine Tt.bif (fun h => ?_) (fun h => ?_)
            · rw [h, cond_true] at hsucc
              have hgt : (saved l)[((nm.take i).filter (fun n => l.any fun s => s.Reg == n)).length]? = some nm[i] := by
                rw [hsav (i + 1) (by omega), hsucc, List.append_assoc, List.getElem?_append_right (Nat.le_refl _), Nat.sub_self]
                rfl
              have hlt : ((nm.take i).filter (fun n => l.any fun s => s.Reg == n)).length < (saved l).length := lt_of_some hgt
              refine Tt.bif (fun h => by have := of_decide_eq_true h; omega) (fun _ => ?_)
              refine Tt.bnd (show idx (saved l) _ = some nm[i] by rw [idx_nat (by omega)]; exact hgt) (Tt.bnd (nm_name hi) ?_)
              rw [hni]
              refine Tt.bif (fun h => by simp at h) (fun _ => ?_)
              rw [h]
              refine hkk1 _ ?_
              rw [hsucc, List.length_append, wk1 (by omega)]
              rfl
            · rw [h, cond_false, List.append_nil] at hsucc
              rw [h]
              exact hkk1 _ (by rw [hsucc])
        · rintro ⟨x2, x3⟩ ⟨t1, t2⟩
          dsimp only at t1 t2
          subst t1 t2
          refine ⟨c0 rfl, ?_⟩
          refine Tt.bnd rfl (Tt.som ?_)
          have : saved l = (nm.take 12).filter (fun n => l.any fun s => s.Reg == n) := rfl
          rw [this]
          simp
end Go.Proofs.YteoihjfnojgnnaaGreat
