/- Plain laws on the document's walk: it is the program's order. No program is in sight here. -/
import Derived.Test.YteoihjfnojgnnaaGreatL24w
import Derived.Test.YteoihjfnojgnnaaGreatL24f
set_option linter.unusedVariables false
namespace Go.Proofs.YteoihjfnojgnnaaGreat

def toF (x : RX) : ref24Reach := ⟨x.R, x.From, x.To, x.Is⟩
def toA (x : ref24Reach) : AllocReach := ⟨x.R, x.From, x.To, x.Is⟩
theorem with_eq (x : RX) (n : Int) : ref24_with (toF x) n = some (toF (wt x n)) := by
  unfold ref24_with wt toF
  obtain ⟨a, b, c, d⟩ := x
  cases d <;> rfl
theorem rRange_eq (p : Proc) (hp : Rgt p) (inn out : List (List Bool)) (hD : LvD p p.Regs.toNat inn out) (r : Nat) (hr : (r : Int) < p.Regs) : ref24_Range p r = some (toF ((allX p inn out).1 r)) := by
  have hp' := hp
  obtain ⟨⟨hf1, hf2, hf3⟩, ⟨hq0, hq1, hq2⟩, hrg, hbk, _⟩ := hp
  obtain ⟨D1, D2, D3, D4, D5, D6⟩ := hD
  unfold ref24_Range
  refine (jn_to (b := toF (X0 p.Params r)) ?_).trans ?_
  · unfold X0
    have h := with_eq ⟨(r : Int), 0, 0, false⟩ 0
    have h : ref24_with (⟨(r : Int), 0, 0, false⟩ : ref24Reach) 0 = _ := h
    rw [h]
    cases decide ((r : Int) < p.Params) <;> rfl
  refine itr_bind p.Blocks.length (fun k s => blkF (p.Blocks.getD k dB) (row inn k) (row out k) s) (fun s k => (s.2, k, toF (s.1 r))) (X0 p.Params, 0) (fun _ _ => True) rfl trivial (by omega) (fun k hk s _ => ⟨?_, trivial⟩) (fun s _ => c0 (dge _)) fun _ => rfl
  obtain ⟨X, pos⟩ := s
  refine (c1 (dlt hk)).trans ?_
  obtain ⟨b, hb, hbm⟩ := lv_some hk
  have hgd : p.Blocks.getD k dB = b := getD_at hb
  obtain ⟨hbl, hba⟩ := hf3 b hbm
  have hi0 : ref16_Live p k 0 r = some (bit (row inn k) r) := by
    obtain ⟨z, h1, h2⟩ := rLive_t p hp' k b hb 0 (by omega) r
    have h1 : ref16_Live p (k : Int) 0 (r : Int) = some z := h1
    rw [h1]
    congr 1
    rw [List.drop_zero, ← Lin_iff hb, ← D6 k hk r (by omega)] at h2
    exact Bool.eq_iff_iff.2 h2
  have hi1 : ref16_Live p k (b.Ins.length : Int) r = some (bit (row out k) r) := by
    obtain ⟨z, h1, h2⟩ := rLive_t p hp' k b hb b.Ins.length (by omega) r
    rw [h1]
    congr 1
    rw [List.drop_length, show wthI [] (r : Int) = 0 from rfl] at h2
    have : (z = true ↔ bit (row out k) r = true) := by
      rw [D5 k b hb r (by omega), h2]
      simp
    exact Bool.eq_iff_iff.2 this
  rw [hgd, idx_nat (by omega), show ((k : Int)).toNat = k by omega, hb, Option.bind_some]
  refine (jn_to (b := toF (rowX X (row inn k) pos r)) ?_).trans ?_
  · rw [hi0, Option.bind_some, with_eq, Option.bind_some]
    unfold rowX
    cases bit (row inn k) r <;> rfl
  refine itr_bind b.Ins.length (fun k s => (insX (b.Ins.getD k dI) s.2 s.1, IntKind.wrap .i64 (s.2 + 2))) (fun s k => (s.2, k, toF (s.1 r))) (rowX X (row inn k) pos, pos) (fun _ _ => True) rfl trivial (by omega) (fun j hj s _ => ⟨?_, trivial⟩) (fun s _ => c0 (dge _)) fun _ => ?_
  · obtain ⟨Y, po⟩ := s
    refine (c1 (dlt hj)).trans ?_
    have hi : b.Ins[j]? = some b.Ins[j] := List.getElem?_eq_getElem hj
    have him : b.Ins[j] ∈ b.Ins := List.getElem_mem hj
    rw [idx_get hj, Option.bind_some]
    generalize b.Ins[j] = i at hi him
    rw [getD_at hi, rUses_eq i (hba i him), Option.bind_some]
    have hul := usesL_len i (hba i him)
    refine itr_bind (usesL i).length (fun k X => upd X ((usesL i).getD k 0) po) (fun X k => (k, toF (X r))) Y (fun _ _ => True) rfl trivial (by omega) (fun l hl Z _ => ⟨?_, trivial⟩) (fun s _ => c0 (dge _)) fun _ => ?_
    · refine (c1 (dlt hl)).trans ?_
      have hgu : (usesL i).getD l 0 = (usesL i)[l] := getD_at (List.getElem?_eq_getElem hl)
      rw [hgu]
      refine (jn_to (b := toF (upd Z (usesL i)[l] po r)) ?_).trans rfl
      rw [idx_get hl, Option.bind_some, with_eq, Option.bind_some]
      unfold upd
      cases ((usesL i)[l] == (r : Int)) <;> rfl
    · dsimp only [Lp.thn]
      refine (jn_to (b := toF (insX i po Y r)) ?_).trans rfl
      rw [Option.bind_some, rDef_eq, Option.bind_some, with_eq, Option.bind_some]
      unfold insX usX
      cases hdd : (defL i == (r : Int)) with
      | false =>
        rw [cond_false]
        cases (defL i != (-1)) with
        | false => rfl
        | true => rw [cond_true]; unfold upd; rw [hdd]; rfl
      | true =>
        have : (defL i != (-1)) = true := by
          have : defL i = (r : Int) := by simpa using hdd
          rw [this]
          simp only [bne_iff_ne, ne_eq]
          omega
        rw [this, cond_true, cond_true]
        unfold upd
        rw [hdd]
        rfl
  · dsimp only [Lp.thn]
    refine (jn_to (b := toF ((blkF b (row inn k) (row out k) (X, pos)).1 r)) ?_).trans rfl
    rw [hi1, Option.bind_some, with_eq, Option.bind_some]
    unfold blkF rowX blkX
    dsimp only
    cases bit (row out k) r <;> rfl

/-! The order. -/
def SLt (l : List AllocReach) : Prop := l.Pairwise (fun a b => ltb a b = true)
theorem slt_uniq : ∀ (l m : List AllocReach), l.Perm m → SLt l → SLt m → l = m
  | [], m, h, _, _ => (List.nil_perm.1 h).symm
  | a :: l, [], h, _, _ => absurd (List.perm_nil.1 h) (by simp)
  | a :: l, b :: m, h, h1, h2 => by
    obtain ⟨a1, a2⟩ := List.pairwise_cons.1 h1
    obtain ⟨b1, b2⟩ := List.pairwise_cons.1 h2
    have hab : a = b := by
      rcases List.mem_cons.1 (h.mem_iff.1 (List.mem_cons_self : a ∈ a :: l)) with e | e
      · exact e
      · rcases List.mem_cons.1 (h.mem_iff.2 (List.mem_cons_self : b ∈ b :: m)) with f | f
        · exact f.symm
        · have := ltb_t (a1 b f)
          have := ltb_t (b1 a e)
          omega
    subst hab
    rw [slt_uniq l m (List.Perm.cons_inv h) a2 b2]
theorem OrdP.slt {R : Nat} {X : Nat → RX} {ord : List AllocReach} (ho : OrdP R X ord) (hX : RegX X) : SLt ord := by
  refine List.pairwise_iff_getElem.2 fun i j hi hj hij => ?_
  have h1 := ho.srt i j (Nat.zero_le _) hij hj
  have h2 := ho.ne hX hi hj (by omega)
  rw [gt_at hi, gt_at hj] at h1 h2
  refine le_lt h1 fun he => h2 ?_
  unfold keyR at he
  simp only [Prod.mk.injEq] at he
  exact he.2.2
theorem before_eq2 (a b : ref24Reach) : ref24_before a b = some (ltb (toA a) (toA b)) := by
  unfold ref24_before ltb toA
  dsimp only
  by_cases h1 : a.From = b.From
  · rw [c0 (by simp [h1])]
    by_cases h2 : a.To = b.To
    · rw [c0 (by simp [h2])]
      congr 1
      congr 1
      apply propext
      omega
    · rw [c1 (by simpa using h2)]
      congr 1
      congr 1
      apply propext
      omega
  · rw [c1 (by simpa using h1)]
    congr 1
    congr 1
    apply propext
    omega
theorem repL_succ (R : Nat) (X : Nat → RX) : repL (R + 1) X = repL R X ++ [cvX (X R)] := by
  unfold repL
  rw [List.range_succ, List.map_append]
  rfl
theorem walk_t (p : Proc) (hp : Rgt p) (inn out : List (List Bool)) (hD : LvD p p.Regs.toNat inn out) : Tt (ref24_Walk p) (fun y => SLt (y.map toA) ∧ (y.map toA).Perm ((repL p.Regs.toNat (allX p inn out).1).filter (fun x => x.is))) := by
  have hr := rRange_eq p hp inn out hD
  have hX := allX_R p inn out
  have h40 := hp.regs
  obtain ⟨hg0, hg1, _⟩ := hp.prc
  have hRR : p.Regs = (p.Regs.toNat : Int) := by omega
  generalize (allX p inn out).1 = X at hr hX
  generalize p.Regs.toNat = R at hRR
  unfold ref24_Walk
  rw [hRR]
  refine Tt.cnt R (by omega) (fun k t => t.2 = (k : Int) ∧ SLt (t.1.map toA) ∧ (t.1.map toA).Perm ((repL k X).filter (fun x => x.is)) ∧ ∀ x ∈ t.1, x.R < (k : Int)) ⟨rfl, List.Pairwise.nil, .refl _, fun x hx => by cases hx⟩ ?_ ?_
  · rintro k hk ⟨x1, x2⟩ ⟨g1, g2, g3, g4⟩
    dsimp only at g1 g2 g3 g4
    subst g1
    have hlen : x1.length ≤ k := by
      have h1 := g3.length_eq
      have h2 := List.length_filter_le (fun x : AllocReach => x.is) (repL k X)
      rw [List.length_map] at h1
      rw [repL_len] at h2
      omega
    dsimp only
    refine Tt.bif (fun _ => ?_) (fun h => by have := of_decide_eq_false h; omega)
    have hgo : ∀ (x3 : List ref24Reach), SLt (x3.map toA) → (x3.map toA).Perm ((repL (k + 1) X).filter (fun x => x.is)) → (∀ x ∈ x3, x.R < ((k + 1 : Nat) : Int)) → Tt (some (Lp.go (x3, IntKind.wrap .i64 ((k : Int) + 1))) : Option (Lp (List ref24Reach × Int) Unit)) (fun z => ∃ t', z = .go t' ∧ t'.2 = ((k + 1 : Nat) : Int) ∧ SLt (t'.1.map toA) ∧ (t'.1.map toA).Perm ((repL (k + 1) X).filter (fun x => x.is)) ∧ ∀ x ∈ t'.1, x.R < ((k + 1 : Nat) : Int)) :=
      fun x3 h1 h2 h3 => Tt.som ⟨_, rfl, wk1 (by omega), h1, h2, h3⟩
    refine Tt.jn1 (fun x3 : List ref24Reach => SLt (x3.map toA) ∧ (x3.map toA).Perm ((repL (k + 1) X).filter (fun x => x.is)) ∧ ∀ x ∈ x3, x.R < ((k + 1 : Nat) : Int)) (fun kk hkk => ?_) (fun x3 ⟨h1, h2, h3⟩ => hgo x3 h1 h2 h3)
    refine Tt.bnd (hr k (by omega)) ?_
    have hlast : (repL (k + 1) X).filter (fun x => x.is) = (repL k X).filter (fun x => x.is) ++ (bif (X k).Is then [cvX (X k)] else []) := by
      rw [repL_succ, List.filter_append]
      congr 1
    have hyR : (toF (X k)).R = (k : Int) := hX k
    refine Tt.bif (fun hi => ?_) (fun hi => ?_)
    · have hi : (X k).Is = false := by
        have : (!(X k).Is) = true := hi
        simpa using this
      refine hkk _ ⟨g2, ?_, fun x hx => by have := g4 x hx; omega⟩
      rw [hlast, hi, cond_false, List.append_nil]
      exact g3
    · have hi : (X k).Is = true := by
        have : (!(X k).Is) = false := hi
        simpa using this
      rw [hi, cond_true] at hlast
      have hyA : toA (toF (X k)) = cvX (X k) := rfl
      generalize hy : toF (X k) = y at hyR hyA
      refine Tt.jn2 (fun (x4 : List ref24Reach) (x5 : Int) => ∃ j : Nat, x5 = (j : Int) ∧ j ≤ x1.length ∧ x4 = x1.take j ∧ (∀ i (hi : i < x1.length), i < j → ltb (toA x1[i]) (toA y) = true) ∧ (∀ (hj : j < x1.length), ltb (toA x1[j]) (toA y) = false)) (fun kk2 hkk2 => ?_) (fun x4 x5 ⟨j, e1, e2, e3, e4, e5⟩ => ?_)
      · refine Tt.whil (fun t => ∃ j : Nat, t.2 = (j : Int) ∧ j ≤ x1.length ∧ t.1 = x1.take j ∧ (∀ i (hi : i < x1.length), i < j → ltb (toA x1[i]) (toA y) = true)) (fun t => x1.length - t.2.toNat) ⟨0, rfl, Nat.zero_le _, by simp, fun i _ h => by omega⟩ (NN_big (by dsimp only; omega)) ?_
        rintro ⟨x6, x7⟩ ⟨j, e1, e2, e3, e4⟩
        dsimp only at e1 e3
        subst e1 e3
        dsimp only
        refine Tt.bif (fun hc => ?_) (fun hc => ?_)
        · have hc := of_decide_eq_true hc
          have hj : j < x1.length := by omega
          refine Tt.bnd (idx_get hj) (Tt.bnd (before_eq2 _ _) ?_)
          refine Tt.bif (fun hb => ?_) (fun hb => ?_)
          · refine Tt.bnd (idx_get hj) (Tt.bnd (room_ok (by simp; omega)) (Tt.som (.inl ⟨_, rfl, ⟨j + 1, wk1 (by omega), by omega, (List.take_succ_eq_append_getElem hj).symm, fun i hi hij => ?_⟩, by dsimp only; rw [wk1 (by omega)]; omega⟩)))
            by_cases h : i = j
            · subst h; exact hb
            · exact e4 i hi (by omega)
          · exact Tt.som (.inr (.inl ⟨_, rfl, hkk2 _ _ ⟨j, rfl, e2, rfl, e4, fun _ => hb⟩⟩))
        · have hc := of_decide_eq_false hc
          exact Tt.som (.inr (.inl ⟨_, rfl, hkk2 _ _ ⟨j, rfl, e2, rfl, e4, fun h => by omega⟩⟩))
      · subst e1 e3
        refine Tt.bnd (room_ok (by simp; omega)) ?_
        refine Tt.cnt (x1.length - j) (by omega) (fun i t => t = (x1.take j ++ [y] ++ (x1.drop j).take i, ((j + i : Nat) : Int))) (by simp) ?_ ?_
        · rintro i hi _ rfl
          refine Tt.bif (fun _ => ?_) (fun h => by have := of_decide_eq_false h; omega)
          have hji : j + i < x1.length := by omega
          refine Tt.bnd (idx_get hji) (Tt.bnd (room_ok (by simp; omega)) (Tt.som ⟨_, rfl, ?_⟩))
          rw [wk1 (by omega), List.take_succ_eq_append_getElem (by simp; omega), List.getElem_drop]
          simp [Nat.add_assoc]
        · rintro _ rfl
          refine ⟨c0 (df (by omega)), ?_⟩
          have hd : (x1.drop j).take (x1.length - j) = x1.drop j := List.take_of_length_le (by simp)
          rw [hd]
          dsimp only [Lp.thn]
          have hgR : ∀ i (hi : i < x1.length), x1[i].R < (k : Int) := fun i hi => g4 _ (List.getElem_mem hi)
          refine hkk _ ⟨?_, ?_, ?_⟩
          · unfold SLt at g2 ⊢
            have hsp : x1.map toA = (x1.take j).map toA ++ (x1.drop j).map toA := by rw [← List.map_append, List.take_append_drop]
            rw [hsp] at g2
            obtain ⟨p1, p2, p3⟩ := List.pairwise_append.1 g2
            rw [List.map_append, List.map_append, List.append_assoc]
            refine List.pairwise_append.2 ⟨p1, ?_, fun a ha b hb => ?_⟩
            · refine List.pairwise_append.2 ⟨List.pairwise_singleton _ _, p2, fun a ha b hb => ?_⟩
              simp only [List.map_cons, List.map_nil, List.mem_singleton] at ha
              subst ha
              obtain ⟨w, hw, rfl⟩ := List.mem_map.1 hb
              obtain ⟨i, hi, rfl⟩ := List.getElem_of_mem hw
              have hi' : j + i < x1.length := by simp at hi; omega
              rw [List.getElem_drop]
              have hj : j < x1.length := by omega
              have h1 : Le (toA y) (toA x1[j]) := e5 hj
              have h2 : Le (toA x1[j]) (toA x1[j + i]) := by
                by_cases h : i = 0
                · subst h; exact Le.refl _
                · refine Le.of ?_
                  rw [← hsp] at g2
                  have := List.pairwise_iff_getElem.1 g2 j (j + i) (by simpa using hj) (by simpa using hi') (by omega)
                  simpa using this
              refine le_lt (h1.trans h2) fun he => ?_
              unfold keyR at he
              simp only [Prod.mk.injEq] at he
              have h3 : y.R = x1[j + i].R := he.2.2
              have := hgR (j + i) hi'
              omega
            · obtain ⟨w, hw, rfl⟩ := List.mem_map.1 ha
              rcases List.mem_append.1 hb with hb | hb
              · simp only [List.map_cons, List.map_nil, List.mem_singleton] at hb
                subst hb
                obtain ⟨i, hi, rfl⟩ := List.getElem_of_mem hw
                have hi' : i < j := by simp at hi; omega
                rw [List.getElem_take]
                exact e4 i (by omega) hi'
              · exact p3 _ (List.mem_map_of_mem hw) _ hb
          · rw [hlast, ← hyA]
            have h1 : (x1.take j ++ [y] ++ x1.drop j).Perm (x1 ++ [y]) := by
              have h2 : (x1.take j ++ [y] ++ x1.drop j).Perm (y :: (x1.take j ++ x1.drop j)) := by
                rw [List.append_assoc]
                exact List.perm_middle
              rw [List.take_append_drop] at h2
              exact h2.trans (List.perm_append_singleton _ _).symm
            have h3 := h1.map toA
            rw [List.map_append (l₁ := x1)] at h3
            exact h3.trans (g3.append_right _)
          · intro x hx
            have : x = y ∨ x ∈ x1 := by
              rcases List.mem_append.1 hx with hx | hx
              · rcases List.mem_append.1 hx with hx | hx
                · exact .inr (List.mem_of_mem_take hx)
                · exact .inl (by simpa using hx)
              · exact .inr (List.mem_of_mem_drop hx)
            rcases this with rfl | hx
            · omega
            · have := g4 x hx; omega
  · rintro ⟨x1, x2⟩ ⟨g1, g2, g3, g4⟩
    dsimp only at g1 g2 g3 g4
    subst g1
    exact ⟨c0 (dge _), Tt.som ⟨g2, g3⟩⟩
end Go.Proofs.YteoihjfnojgnnaaGreat
