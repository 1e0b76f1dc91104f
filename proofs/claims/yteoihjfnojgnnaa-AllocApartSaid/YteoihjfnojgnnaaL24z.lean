/- Plain laws on the models of seats: where a register is set none that is live has its seat. No program is in sight here. -/
import Derived.Test.YteoihjfnojgnnaaL24y
set_option linter.unusedVariables false
namespace Go.Proofs.Yteoihjfnojgnnaa

theorem live_t (p : Proc) (hp : Rgt p) (n : Nat) (b : GBlock) (hb : p.Blocks[n]? = some b) (k : Nat) (hk : k ≤ b.Ins.length) (q : Nat) : Tt (ref16_Live p n k q) (fun z => z = true ↔ LiveP p b k q) := rLive_t p hp n b hb k hk q
theorem none_ne {s : Seat} (h : ((s.Reg == 0) && (s.Slot == (-1))) = true) : s = ⟨0, -1⟩ := by
  obtain ⟨a, b⟩ := s
  simp only [Bool.and_eq_true, beq_iff_eq] at h
  obtain ⟨rfl, rfl⟩ := h
  rfl
theorem apart_t (p : Proc) (hp : Rgt p) (l : List Seat) (R q0 n k : Nat) (hl : l.length = R) (hR : R ≤ 40) (hq0 : q0 < R) (b : GBlock) (hb : p.Blocks[n]? = some b) (hk : k ≤ b.Ins.length) (H : ∀ r, r < R → r ≠ q0 → LiveP p b k r → sR l r ≠ sR l q0) : Tt (law24_apart p l q0 n k) (fun z => z = true) := by
  unfold law24_apart
  rw [hl]
  refine Tt.cnt R (by omega) (fun j t => t = (j : Int)) rfl ?_ ?_
  · rintro j hj _ rfl
    have hgo : Tt (some (Lp.go (IntKind.wrap .i64 ((j : Int) + 1))) : Option (Lp Int Bool)) (fun z => ∃ t', z = .go t' ∧ t' = ((j + 1 : Nat) : Int)) := Tt.som ⟨_, rfl, wk1 (by omega)⟩
    refine Tt.bif (fun _ => ?_) (fun h => by have := of_decide_eq_false h; omega)
    refine Tt.bif (fun hne => ?_) (fun _ => hgo)
    have hne : j ≠ q0 := by
      intro h
      rw [h] at hne
      simp at hne
    refine Tt.bnd (st_at (by omega)) (Tt.bnd (st_at (by omega)) ?_)
    refine Tt.bif (fun heq => ?_) (fun _ => hgo)
    refine Tt.bnd (st_at (by omega)) ?_
    refine Tt.bif (fun _ => ?_) (fun _ => hgo)
    refine Tt.bind (live_t p hp n b hb k hk j) fun y hy => ?_
    refine Tt.bif (fun hl => ?_) (fun _ => hgo)
    exfalso
    refine H j hj hne (hy.1 hl) ?_
    simp only [Bool.and_eq_true, beq_iff_eq] at heq
    generalize sR l j = s at heq
    generalize sR l q0 = s' at heq
    obtain ⟨a, b⟩ := s
    obtain ⟨a', b'⟩ := s'
    obtain ⟨rfl, rfl⟩ : a = a' ∧ b = b' := heq
    rfl
  · rintro _ rfl
    exact ⟨c0 (dge _), Tt.som rfl⟩
theorem AllocApart_law (m : GModule) (n regs : Int) (hw : WfM m) : law24_AllocApart m n regs = some true := by
  unfold law24_AllocApart
  obtain ⟨f, hf, hP⟩ := few_right m n hw
  rw [hf, Option.bind_some, awake_eq]
  cases f with
  | false => rfl
  | true =>
    obtain ⟨p, hp, hR⟩ := hP rfl
    rw [Bool.not_true, cond_false, hp, Option.bind_some]
    by_cases hreg : regs < 0 ∨ 12 < regs
    · have : alloc_Assign p regs = some ([], 0, 1) := by
        unfold alloc_Assign
        by_cases h : regs < 0
        · rw [c1 (dt h)]
        · rw [c0 (df h), c1 (dt (by omega))]
      rw [this]
      rfl
    · obtain ⟨k, hk⟩ : ∃ k : Nat, regs = (k : Int) := ⟨regs.toNat, by omega⟩
      subst hk
      obtain ⟨⟨inn, out⟩, hL, hD⟩ := Live_t p hR
      have hX := allX_R p inn out
      have hc := all_cov p hR inn out
      have h40 := hR.regs
      obtain ⟨hg0, hg1, hg2⟩ := hR.prc
      refine Tt.eq ?_
      refine Tt.bind (assign_t p hR inn out hL hD k (by omega)) fun y3 hy3 => ?_
      have hRR : p.Regs = (p.Regs.toNat : Int) := by omega
      obtain ⟨s1, s2, s3⟩ := seat_t (by omega) hX (by omega) hy3
      have e3 := hy3.ok
      generalize (allX p inn out).1 = X at hX hc s2 s3 hy3
      have hD : LvD p p.Regs.toNat inn out := hD
      generalize p.Regs.toNat = R at hRR s1 s2 s3 hD
      rw [e3]
      refine Tt.bif (fun h => by cases h) (fun _ => ?_)
      rw [hRR, s1]
      refine Tt.bif (fun h => by simp at h) (fun _ => ?_)
      have h0b : ∀ q : Nat, (q : Int) < p.Params → q < R := fun q h => by omega
      refine Tt.cnt R (by omega) (fun j t => t = (j : Int)) rfl ?_ ?_
      · rintro j hj _ rfl
        have hgo : Tt (some (Lp.go (IntKind.wrap .i64 ((j : Int) + 1))) : Option (Lp Int Bool)) (fun z => ∃ t', z = .go t' ∧ t' = ((j + 1 : Nat) : Int)) := Tt.som ⟨_, rfl, wk1 (by omega)⟩
        refine Tt.bif (fun _ => ?_) (fun h => by have := of_decide_eq_false h; omega)
        have hjj : ∀ (b : GBlock), p.Blocks[0]? = some b → Cov (X j) 0 → Tt ((idx y3.1 (j : Int)).bind fun u3 => bif (u3.Reg == 0) && (u3.Slot == (-1)) then (some (Lp.ret false)) else ((law24_apart p y3.1 (j : Int) 0 0).bind fun y7 => bif !y7 then (some (Lp.ret false)) else (some (Lp.go (IntKind.wrap .i64 ((j : Int) + 1))))) : Option (Lp Int Bool)) (fun z => ∃ t', z = .go t' ∧ t' = ((j + 1 : Nat) : Int)) := by
          intro b hb hcov
          refine Tt.bnd (st_at (by omega)) ?_
          refine Tt.bif (fun h => absurd (none_ne h) (s2 j hj hcov.1)) (fun _ => ?_)
          refine Tt.bind (apart_t p hR y3.1 R j 0 0 s1 (by omega) hj b hb (by omega) fun r hr hne hl => ?_) fun y hy => ?_
          · have := live_at hc hD hb hr (by omega) hl
            exact s3 r j 0 hr hj hne this hcov
          · rw [hy]; exact hgo
        refine Tt.bif (fun hpar => ?_) (fun _ => ?_)
        · have hpar := of_decide_eq_true hpar
          have hcov := hc.par j hpar
          by_cases hN : 0 < p.Blocks.length
          · obtain ⟨b, hb, _⟩ := lv_some hN
            exact hjj b hb hcov
          · exact absurd hR.one (by omega)
        · by_cases hN : 0 < p.Blocks.length
          · obtain ⟨b, hb, _⟩ := lv_some hN
            refine Tt.bind (live_t p hR 0 b hb 0 (by omega) j) fun y hy => ?_
            refine Tt.bif (fun hl => ?_) (fun _ => hgo)
            exact hjj b hb (live_at hc hD hb hj (by omega) (hy.1 hl))
          · exact absurd hR.one (by omega)
      · rintro _ rfl
        refine ⟨c0 (dge _), ?_⟩
        dsimp only [Lp.thn]
        refine Tt.cnt p.Blocks.length (by have := hR.blk; omega) (fun j t => t = (j : Int)) rfl ?_ ?_
        · rintro nb hnb _ rfl
          refine Tt.bif (fun _ => ?_) (fun h => by have := of_decide_eq_false h; omega)
          obtain ⟨b, hb, hbm⟩ := lv_some hnb
          obtain ⟨hbl, hba⟩ := hR.few.2.2 b hbm
          have hidx : idx p.Blocks (nb : Int) = some b := by rw [idx_nat (by omega)]; exact hb
          have hbk := hR.blk
          refine Tt.cnt b.Ins.length (by omega) (fun j t => t = (j : Int)) rfl ?_ ?_
          · rintro k' hk' _ rfl
            refine Tt.bnd hidx ?_
            refine Tt.bif (fun _ => ?_) (fun h => by have := of_decide_eq_false h; omega)
            have hi : b.Ins[k']? = some b.Ins[k'] := List.getElem?_eq_getElem hk'
            have him : b.Ins[k'] ∈ b.Ins := List.getElem_mem hk'
            refine Tt.bnd hidx (Tt.bnd (idx_get hk') ?_)
            generalize b.Ins[k'] = i at hi him
            obtain ⟨hu, hd⟩ := (hg2 b hbm).1 i him
            have hB := hc.blk nb b hb
            refine Tt.bnd (rUses_eq i (hba i him)) ?_
            have hul := usesL_len i (hba i him)
            refine Tt.cnt (usesL i).length (by omega) (fun j t => t = (j : Int)) rfl ?_ ?_
            · rintro ju hju _ rfl
              refine Tt.bif (fun _ => ?_) (fun h => by have := of_decide_eq_false h; omega)
              have hmu := List.getElem_mem hju
              refine Tt.bnd (idx_get hju) ?_
              generalize (usesL i)[ju] = u at hmu
              obtain ⟨u0, u1⟩ := hu u hmu
              obtain ⟨q, rfl⟩ : ∃ q : Nat, u = (q : Int) := ⟨u.toNat, by omega⟩
              refine Tt.bnd (st_at (by omega)) ?_
              refine Tt.bif (fun h => absurd (none_ne h) (s2 q (by omega) (hB.use k' i hi q hmu).1)) (fun _ => Tt.som ⟨_, rfl, wk1 (by omega)⟩)
            · rintro _ rfl
              refine ⟨c0 (dge _), ?_⟩
              dsimp only [Lp.thn]
              have hgo : Tt (some (Lp.go (IntKind.wrap .i64 ((k' : Int) + 1))) : Option (Lp Int Bool)) (fun z => ∃ t', z = .go t' ∧ t' = ((k' + 1 : Nat) : Int)) := Tt.som ⟨_, rfl, wk1 (by omega)⟩
              refine Tt.bnd (rDef_eq i) ?_
              refine Tt.bif (fun hdd => ?_) (fun _ => hgo)
              have hd : InR p.Regs (defL i) := by
                rcases hd with hd | hd
                · rw [hd] at hdd; cases hdd
                · exact hd
              obtain ⟨d0, d1⟩ := hd
              obtain ⟨q, hq⟩ : ∃ q : Nat, defL i = (q : Int) := ⟨(defL i).toNat, by omega⟩
              rw [hq]
              have hcov := hB.dfn k' i hi q hq
              have hqR : q < R := by omega
              refine Tt.bnd (st_at (by omega)) ?_
              refine Tt.bif (fun h => absurd (none_ne h) (s2 q hqR hcov.1)) (fun _ => ?_)
              rw [wk1 (by omega)]
              refine Tt.bind (apart_t p hR y3.1 R q nb (k' + 1) s1 (by omega) hqR b hb (by omega) fun r hr hne hl => ?_) fun y hy => ?_
              · have := live_next hc hD hb hr hi (by rw [hq]; omega) hl
                exact s3 r q _ hr hqR hne this hcov
              · rw [hy]; exact Tt.som ⟨_, rfl, rfl⟩
          · rintro _ rfl
            exact ⟨by rw [hidx]; exact c0 (dge _), Tt.som ⟨_, rfl, wk1 (by omega)⟩⟩
        · rintro _ rfl
          exact ⟨c0 (dge _), Tt.som rfl⟩
end Go.Proofs.Yteoihjfnojgnnaa
