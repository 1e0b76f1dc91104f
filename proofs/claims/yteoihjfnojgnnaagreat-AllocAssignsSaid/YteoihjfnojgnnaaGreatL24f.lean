/- Plain laws on the models of ranges: those of the program are those of the document. No program is in sight here. -/
import Derived.Test.YteoihjfnojgnnaaGreatL24e
import Derived.Test.YteoihjfnojgnnaaGreatL24r
set_option linter.unusedVariables false
namespace Go.Proofs.YteoihjfnojgnnaaGreat

theorem wthI_three (l : List Ins) (q : Int) : wthI l q = 0 ∨ wthI l q = 1 ∨ wthI l q = 2 := by
  induction l with
  | nil => exact .inl rfl
  | cons i l ih =>
    rw [wthI_cons]
    cases (usesL i).contains q
    · cases (defL i == q)
      · exact ih
      · exact .inr (.inr rfl)
    · exact .inr (.inl rfl)
theorem cnt_le (l : List Bool) : l.count false ≤ l.length := List.count_le_length

theorem rLive_t (p : Proc) (hp : Rgt p) (n : Nat) (b : GBlock) (hb : p.Blocks[n]? = some b) (fr : Nat) (hfr : fr ≤ b.Ins.length) (r : Int) :
    Tt (ref16_Live p n fr r) (fun z => z = true ↔ (wthI (b.Ins.drop fr) r = 1 ∨ (wthI (b.Ins.drop fr) r = 0 ∧ OutP p r b))) := by
  obtain ⟨⟨hf1, hf2, hf3⟩, ⟨hq0, hq1, hq2⟩, hrg, hbk⟩ := hp
  have hbm : b ∈ p.Blocks := List.mem_of_getElem? hb
  have hnl := lt_some hb
  unfold ref16_Live
  refine Tt.bnd (by rw [idx_nat (by omega)]; exact hb) (Tt.bnd (within_eq b (hf3 b hbm) fr hfr r) ?_)
  have h3 := wthI_three (b.Ins.drop fr) r
  refine Tt.bif (fun h => ?_) (fun h => ?_)
  · refine Tt.som ?_
    have h := of_decide_eq_true h
    unfold wthE at h ⊢
    unfold OutP
    rcases h3 with h0 | h1 | h2
    · rw [h0] at h ⊢
      cases he : wE b r with
      | false => rw [he] at h; simp at h
      | true => simp
    · rw [h1]; simp
    · rw [h2]; simp
  have h := of_decide_eq_false h
  have hw0 : wthI (b.Ins.drop fr) r = 0 := by
    unfold wthE at h
    rcases h3 with h0 | h1 | h2
    · exact h0
    · rw [h1] at h; simp at h
    · rw [h2] at h; simp at h
  have hwe : wE b r = false := by
    unfold wthE at h
    rw [hw0] at h
    cases he : wE b r with
    | false => rfl
    | true => rw [he] at h; simp at h
  rw [hw0]
  have hout := (hq2 b hbm).2
  generalize hN : p.Blocks.length = N at *
  have hrep : repl (N : Int) false = some (List.replicate N false) := by
    unfold repl
    rw [if_pos (by omega)]
    rfl
  refine Tt.bnd hrep (Tt.bnd (rOuts2_eq p n b hb (by rw [hN]; exact hout)) ?_)
  refine Tt.mono (Q := fun z => z = true ↔ ∃ s ∈ outsL b, Lin p r s.toNat) ?_ fun z hz => by
    rw [hz]
    unfold OutP
    rw [hwe]
    simp
  have hb0 : ∀ q, bit (List.replicate N false) q = false := by
    intro q
    unfold bit
    rw [List.getD_eq_getElem?_getD, List.getElem?_replicate]
    split <;> rfl
  refine Tt.whil (fun t => ∃ k : Nat, t.2.2 = (k : Int) ∧ k ≤ t.2.1.length ∧ t.1.length = N ∧ (∀ s ∈ t.2.1, InR N s) ∧ (∀ s ∈ t.2.1, Lin p r s.toNat → ∃ s ∈ outsL b, Lin p r s.toNat) ∧ (∀ s ∈ outsL b, s ∈ t.2.1) ∧
    (∀ j, j < k → ∀ s, t.2.1[j]? = some s → bit t.1 s.toNat = true) ∧ (∀ v b', p.Blocks[v]? = some b' → bit t.1 v = true → wthE b' b'.Ins r ≠ 1 ∧ (wthE b' b'.Ins r = 0 → ∀ s ∈ outsL b', s ∈ t.2.1)) ∧ t.2.1.length + 2 * t.1.count false ≤ 2 + 2 * N)
    (fun t => (t.2.1.length - t.2.2.toNat) + 3 * t.1.count false) ?_ ?_ ?_
  · have := outsL_len b
    refine ⟨0, rfl, by omega, by simp, hout, fun s hs hl => ⟨s, hs, hl⟩, fun s hs => hs, fun j hj => by omega, fun v b' _ h => ?_, ?_⟩
    · rw [hb0] at h; cases h
    · dsimp only
      rw [List.count_replicate_self]
      omega
  · have := outsL_len b
    dsimp only
    rw [List.count_replicate_self]
    exact NN_big (by omega)
  rintro ⟨x1, x2, x3⟩ ⟨k, g1, g2, g3, g4, g5, g6, g7, g8, g9⟩
  dsimp only at g1 g2 g3 g4 g5 g6 g7 g8 g9
  subst g1
  have hcl := cnt_le x1
  dsimp only
  refine Tt.bif (fun hk => ?_) (fun hk => ?_)
  · have hk := of_decide_eq_true hk
    have hkl : k < x2.length := by omega
    have hwk : IntKind.wrap .i64 ((k : Int) + 1) = ((k + 1 : Nat) : Int) := by rw [w64 (by omega)]; omega
    unfold jn
    dsimp only
    refine Tt.bnd (idx_get hkl) ?_
    have hsm := List.getElem_mem hkl
    have hse : x2[k]? = some x2[k] := List.getElem?_eq_getElem hkl
    generalize x2[k] = s at hsm hse
    obtain ⟨s0, s1⟩ := g4 s hsm
    obtain ⟨v, rfl⟩ : ∃ v : Nat, s = (v : Int) := ⟨s.toNat, by omega⟩
    have hvN : v < N := by omega
    have hbv : idx x1 (v : Int) = some (bit x1 v) := bit_at (by omega)
    refine Tt.bnd hbv ?_
    refine Tt.bif (fun hv => ?_) (fun hv => ?_)
    · refine Tt.som (.inl ⟨_, rfl, ⟨k + 1, hwk, by dsimp only; omega, g3, g4, g5, g6, fun j hj t ht => ?_, g8, g9⟩, ?_⟩)
      · by_cases hjk : j = k
        · subst hjk
          dsimp only at ht
          rw [hse] at ht
          cases ht
          exact hv
        · exact g7 j (by omega) t ht
      · dsimp only
        rw [hwk]
        omega
    · obtain ⟨b', hb', hbm'⟩ := lv_some (show v < p.Blocks.length by omega)
      have hwn : ref16_within b' 0 r = some (wthE b' b'.Ins r) := by
        have := within_eq b' (hf3 b' hbm') 0 (by omega) r
        rwa [List.drop_zero] at this
      have h3' := wthI_three b'.Ins r
      have hlt : v < x1.length := by omega
      have hcnt := (un_row x1 (x1.set v true) (by simp) (fun q hq h => by rw [bit_set hlt]; split <;> simp [h])).2 ⟨v, hlt, by rw [bit_set hlt, if_pos rfl], hv⟩
      refine Tt.bnd hbv (Tt.bnd hbv (Tt.bnd (by rw [idx_nat (by omega)]; exact hb') (Tt.bnd hwn ?_)))
      refine Tt.bif (fun h1 => ?_) (fun h1 => ?_)
      · refine Tt.som (.inr (.inr ⟨_, rfl, Tt.som ⟨fun _ => ?_, fun _ => rfl⟩⟩))
        refine g5 v hsm ?_
        have h1 : wthE b' b'.Ins r = 1 := by simpa using h1
        unfold wthE at h1
        rcases h3' with h0 | h1' | h2
        · rw [h0] at h1
          cases he : wE b' r with
          | true => exact .fin (by simpa using hb') h0 he
          | false => rw [he] at h1; simp at h1
        · exact .use (by simpa using hb') h1'
        · rw [h2] at h1; simp at h1
      · have h1 : wthE b' b'.Ins r ≠ 1 := by simpa using h1
        have hto := outsL_len b'
        have hbit : ∀ q, bit (x1.set v true) q = true ↔ q = v ∨ bit x1 q = true := by
          intro q
          rw [bit_set hlt]
          split
          · rename_i h; simp [h]
          · rename_i h; simp [h]
        refine Tt.bif (fun h0 => ?_) (fun h0 => ?_)
        · have h0 : wthE b' b'.Ins r = 0 := by simpa using h0
          have hw0' : wthI b'.Ins r = 0 := by
            unfold wthE at h0
            rcases h3' with h0' | h1' | h2
            · exact h0'
            · rw [h1'] at h0; simp at h0
            · rw [h2] at h0; simp at h0
          have hout' := (hq2 b' hbm').2
          refine Tt.bnd (rOuts2_eq p v b' hb' (by rw [hN]; exact hout')) ?_
          refine Tt.cnt (outsL b').length (by omega) (fun m t => t = (x2 ++ (outsL b').take m, (m : Int))) (by simp) ?_ ?_
          · rintro m hm _ rfl
            refine Tt.bif (fun _ => ?_) (fun h => by have := of_decide_eq_false h; omega)
            refine Tt.bnd (idx_get hm) (Tt.bnd (room_ok (by simp; omega)) (Tt.som ⟨_, rfl, ?_⟩))
            rw [List.take_succ_eq_append_getElem hm, List.append_assoc, w64 (by omega)]
            rfl
          · rintro _ rfl
            rw [List.take_length]
            refine ⟨c0 (dge _), Tt.som (.inl ⟨_, rfl, ⟨k + 1, hwk, by simp; omega, by simp [g3], fun t ht => ?_, fun t ht hl => ?_, fun t ht => ?_, fun j hj t ht => ?_, fun v' b'' hb'' hv' => ?_, ?_⟩, ?_⟩)⟩
            · rcases List.mem_append.1 ht with ht | ht
              · exact g4 t ht
              · exact hout' t ht
            · rcases List.mem_append.1 ht with ht | ht
              · exact g5 t ht hl
              · exact g5 v hsm (.step (by simpa using hb') hw0' ht hl)
            · exact List.mem_append_left _ (g6 t ht)
            · refine (hbit _).2 ?_
              by_cases hjk : j = k
              · subst hjk
                dsimp only at ht
                rw [List.getElem?_append_left hkl, hse] at ht
                cases ht
                exact .inl (by omega)
              · dsimp only at ht
                rw [List.getElem?_append_left (by omega)] at ht
                exact .inr (g7 j (by omega) t ht)
            · rcases (hbit _).1 hv' with rfl | hv'
              · rw [hb'] at hb''
                cases hb''
                exact ⟨h1, fun _ t ht => List.mem_append_right _ ht⟩
              · exact ⟨(g8 v' b'' hb'' hv').1, fun h t ht => List.mem_append_left _ ((g8 v' b'' hb'' hv').2 h t ht)⟩
            · dsimp only
              rw [show ((v : Int)).toNat = v by omega, List.length_append]
              omega
            · dsimp only
              rw [show ((v : Int)).toNat = v by omega, List.length_append, hwk]
              omega
        · have h0 : wthE b' b'.Ins r ≠ 0 := by simpa using h0
          refine Tt.som (.inl ⟨_, rfl, ⟨k + 1, hwk, by dsimp only; omega, by simp [g3], g4, g5, g6, fun j hj t ht => ?_, fun v' b'' hb'' hv' => ?_, ?_⟩, ?_⟩)
          · refine (hbit _).2 ?_
            by_cases hjk : j = k
            · subst hjk
              dsimp only at ht
              rw [hse] at ht
              cases ht
              exact .inl (by omega)
            · exact .inr (g7 j (by omega) t ht)
          · rcases (hbit _).1 hv' with rfl | hv'
            · rw [hb'] at hb''
              cases hb''
              exact ⟨h1, fun h => absurd h h0⟩
            · exact g8 v' b'' hb'' hv'
          · dsimp only
            rw [show ((v : Int)).toNat = v by omega]
            omega
          · dsimp only
            rw [show ((v : Int)).toNat = v by omega, hwk]
            omega
  · have hk := of_decide_eq_false hk
    have hkl : k = x2.length := by omega
    refine Tt.som (.inr (.inl ⟨_, rfl, Tt.som ⟨by nofun, fun ⟨s, hs, hl⟩ => ?_⟩⟩))
    exfalso
    have hall : ∀ s ∈ x2, bit x1 s.toNat = true := by
      intro s hs
      obtain ⟨j, hj, he⟩ := mem_at hs
      exact g7 j (by omega) s he
    have key : ∀ v, Lin p r v → bit x1 v = true → False := by
      intro v hv
      induction hv with
      | use hb' h =>
        intro hs
        refine (g8 _ _ hb' hs).1 ?_
        unfold wthE
        rw [h]
        rfl
      | fin hb' h he =>
        intro hs
        refine (g8 _ _ hb' hs).1 ?_
        unfold wthE
        rw [h, he]
        rfl
      | @step n' b'' s' hb' h hs' hl' ih =>
        intro hs
        obtain ⟨e1, e2⟩ := g8 _ _ hb' hs
        have h0 : wthE b'' b''.Ins r = 0 := by
          unfold wthE at e1 ⊢
          rw [h] at e1 ⊢
          cases he : wE b'' r with
          | false => rfl
          | true => rw [he] at e1; simp at e1
        exact ih (hall _ (e2 h0 _ hs'))
    exact key _ hl (hall s (g6 s hs))
end Go.Proofs.YteoihjfnojgnnaaGreat
