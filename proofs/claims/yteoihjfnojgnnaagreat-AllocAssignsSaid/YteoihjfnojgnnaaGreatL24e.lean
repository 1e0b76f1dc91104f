/- Plain laws on the models of liveness: the sets that are found are those of the paths. No program is in sight here. -/
import Derived.Test.YteoihjfnojgnnaaGreatL24d
set_option linter.unusedVariables false
namespace Go.Proofs.YteoihjfnojgnnaaGreat

/-- A register is read on a way from the beginning of a block before it is set. -/
inductive Lin (p : Proc) (q : Int) : Nat → Prop where
  | use {n : Nat} {b : GBlock} (hb : p.Blocks[n]? = some b) (h : wthI b.Ins q = 1) : Lin p q n
  | fin {n : Nat} {b : GBlock} (hb : p.Blocks[n]? = some b) (h : wthI b.Ins q = 0) (he : wE b q = true) : Lin p q n
  | step {n : Nat} {b : GBlock} {s : Int} (hb : p.Blocks[n]? = some b) (h : wthI b.Ins q = 0) (hs : s ∈ outsL b) (hl : Lin p q s.toNat) : Lin p q n
/-- The same from the end of a block. -/
def OutP (p : Proc) (q : Int) (b : GBlock) : Prop := wE b q = true ∨ ∃ s ∈ outsL b, Lin p q s.toNat
theorem Lin_iff {p : Proc} {q : Int} {n : Nat} {b : GBlock} (hb : p.Blocks[n]? = some b) : Lin p q n ↔ (wthI b.Ins q = 1 ∨ (wthI b.Ins q = 0 ∧ OutP p q b)) := by
  constructor
  · intro h
    cases h with
    | use hb' h => rw [hb] at hb'; cases hb'; exact .inl h
    | fin hb' h he => rw [hb] at hb'; cases hb'; exact .inr ⟨h, .inl he⟩
    | step hb' h hs hl => rw [hb] at hb'; cases hb'; exact .inr ⟨h, .inr ⟨_, hs, hl⟩⟩
  · rintro (h | ⟨h, he | ⟨s, hs, hl⟩⟩)
    · exact .use hb h
    · exact .fin hb h he
    · exact .step hb h hs hl

def row (L : List (List Bool)) (n : Nat) : List Bool := L.getD n []
theorem row_at {L : List (List Bool)} {n : Nat} (h : n < L.length) : idx L (n : Int) = some (row L n) := by
  rw [idx_get h]
  unfold row
  rw [List.getD_eq_getElem?_getD, List.getElem?_eq_getElem h]
  rfl
theorem row_set {L : List (List Bool)} {k n : Nat} {r : List Bool} (hk : k < L.length) : row (L.set k r) n = if n = k then r else row L n := by
  unfold row
  rw [List.getD_eq_getElem?_getD, List.getD_eq_getElem?_getD]
  by_cases h : n = k
  · subst h
    rw [List.getElem?_set_self hk, if_pos rfl]
    rfl
  · rw [List.getElem?_set_ne (fun e => h e.symm), if_neg h]
theorem set_row {L : List (List Bool)} {k : Nat} (hk : k < L.length) : L.set k (row L k) = L := by
  apply List.ext_getElem?
  intro j
  by_cases h : j = k
  · subst h
    rw [List.getElem?_set_self hk]
    unfold row
    rw [List.getD_eq_getElem?_getD, List.getElem?_eq_getElem hk]
    rfl
  · rw [List.getElem?_set_ne (fun e => h e.symm)]

/-- How many are not yet in. -/
def unset (L : List (List Bool)) : Nat := (L.map (fun l => l.count false)).sum
theorem un_row : ∀ (a b : List Bool), a.length = b.length → (∀ q, q < a.length → bit a q = true → bit b q = true) → b.count false ≤ a.count false ∧ ((∃ q, q < a.length ∧ bit b q = true ∧ bit a q = false) → b.count false < a.count false)
  | [], [], _, _ => ⟨Nat.le_refl _, fun ⟨q, h, _⟩ => by simp at h⟩
  | [], _ :: _, h, _ => by simp at h
  | _ :: _, [], h, _ => by simp at h
  | x :: a, y :: b, hl, h => by
    have ih := un_row a b (by simpa using hl) (fun q hq h1 => by
      have := h (q + 1) (by simp; omega)
      simp [bit] at this h1 ⊢
      exact this h1)
    have h0 : x = true → y = true := by
      have := h 0 (by simp)
      simpa [bit] using this
    rw [List.count_cons, List.count_cons]
    refine ⟨?_, fun ⟨q, hq, h1, h2⟩ => ?_⟩
    · have := ih.1
      cases x <;> cases y <;> simp at h0 ⊢ <;> omega
    · cases q with
      | zero =>
        have := ih.1
        simp [bit] at h1 h2
        subst h1 h2
        simp
        omega
      | succ q =>
        have := ih.2 ⟨q, by simpa using hq, by simpa [bit] using h1, by simpa [bit] using h2⟩
        cases x <;> cases y <;> simp at h0 ⊢ <;> omega
theorem un_set : ∀ (L : List (List Bool)) (n : Nat) (r : List Bool), n < L.length → unset (L.set n r) + (row L n).count false = unset L + r.count false
  | [], _, _, h => by simp at h
  | a :: L, 0, r, _ => by simp [unset, row]; omega
  | a :: L, n + 1, r, h => by
    have := un_set L n r (by simpa using h)
    simp only [unset, row, List.set_cons_succ, List.map_cons, List.sum_cons, List.getD_cons_succ] at this ⊢
    omega
theorem un_rep (n R : Nat) : unset (List.replicate n (List.replicate R false)) = n * R := by
  induction n with
  | zero => simp [unset]
  | succ n ih => rw [List.replicate_succ]; simp only [unset, List.map_cons, List.sum_cons] at ih ⊢; rw [ih, Nat.succ_mul]; simp; omega

structure LvI (p : Proc) (R : Nat) (out inn : List (List Bool)) : Prop where
  lo : out.length = p.Blocks.length
  li : inn.length = p.Blocks.length
  ro : ∀ n, n < p.Blocks.length → (row out n).length = R
  ri : ∀ n, n < p.Blocks.length → (row inn n).length = R
  so : ∀ n b, p.Blocks[n]? = some b → ∀ q, q < R → bit (row out n) q = true → OutP p q b
  si : ∀ n, n < p.Blocks.length → ∀ q, q < R → bit (row inn n) q = true → Lin p q n
  eo : ∀ n b, p.Blocks[n]? = some b → ∀ q : Nat, q < R → wE b q = true → bit (row out n) q = true
def Cl (R : Nat) (out inn : List (List Bool)) (n : Nat) (b : GBlock) : Prop :=
  (∀ s ∈ outsL b, ∀ q, q < R → bit (row inn s.toNat) q = true → bit (row out n) q = true) ∧ ∀ q : Nat, q < R → (wthI b.Ins q = 1 ∨ (wthI b.Ins q = 0 ∧ bit (row out n) q = true)) → bit (row inn n) q = true

theorem lv_some {l : List GBlock} {n : Nat} (h : n < l.length) : ∃ b, l[n]? = some b ∧ b ∈ l := ⟨l[n], List.getElem?_eq_getElem h, List.getElem_mem h⟩
theorem lt_some {l : List GBlock} {n : Nat} {b : GBlock} (h : l[n]? = some b) : n < l.length := by
  rcases Nat.lt_or_ge n l.length with h' | h'
  · exact h'
  · rw [List.getElem?_eq_none h'] at h; cases h

/-- The answer. -/
structure LvD (p : Proc) (R : Nat) (inn out : List (List Bool)) : Prop where
  lo : out.length = p.Blocks.length
  li : inn.length = p.Blocks.length
  ro : ∀ n, n < p.Blocks.length → (row out n).length = R
  ri : ∀ n, n < p.Blocks.length → (row inn n).length = R
  bo : ∀ n b, p.Blocks[n]? = some b → ∀ q : Nat, q < R → (bit (row out n) q = true ↔ OutP p q b)
  bi : ∀ n, n < p.Blocks.length → ∀ q : Nat, q < R → (bit (row inn n) q = true ↔ Lin p q n)
theorem lv_done {p : Proc} {R : Nat} {out inn : List (List Bool)} (hL : LvI p R out inn) (hr : ∀ b ∈ p.Blocks, ∀ s ∈ outsL b, InR p.Blocks.length s) (hc : ∀ n b, p.Blocks[n]? = some b → Cl R out inn n b) : LvD p R inn out := by
  have key : ∀ (q : Nat), q < R → ∀ n, Lin p q n → bit (row inn n) q = true := by
    intro q hq n hl
    induction hl with
    | use hb h => exact (hc _ _ hb).2 q hq (.inl h)
    | fin hb h he => exact (hc _ _ hb).2 q hq (.inr ⟨h, hL.eo _ _ hb q hq he⟩)
    | step hb h hs hl ih => exact (hc _ _ hb).2 q hq (.inr ⟨h, (hc _ _ hb).1 _ hs q hq ih⟩)
  refine ⟨hL.lo, hL.li, hL.ro, hL.ri, fun n b hb q hq => ⟨hL.so n b hb q hq, ?_⟩, fun n hn q hq => ⟨hL.si n hn q hq, key q hq n⟩⟩
  rintro (he | ⟨s, hs, hl⟩)
  · exact hL.eo n b hb q hq he
  · exact (hc n b hb).1 s hs q hq (key q hq _ hl)

theorem Live_t (p : Proc) (hp : Rgt p) : Tt (flow_Live p) (fun r => LvD p p.Regs.toNat r.1 r.2) := by
  obtain ⟨⟨hf1, hf2, hf3⟩, ⟨hq0, hq1, hq2⟩, hrg, hbk⟩ := hp
  have hmax : max p.Regs 0 = p.Regs := by omega
  have hrep : repl (max p.Regs 0) false = some (List.replicate p.Regs.toNat false) := by
    unfold repl
    rw [hmax, if_pos (by omega)]
  generalize hR : p.Regs.toNat = R at hrep
  have hR40 : R ≤ 40 := by omega
  generalize hN : p.Blocks.length = N at hbk
  unfold flow_Live
  rw [hN]
  refine Tt.cnt N (by omega) (fun k t => t = (List.replicate k (List.replicate R false), List.replicate k (List.replicate R false), (k : Int))) rfl ?_ ?_
  · rintro k hk _ rfl
    refine Tt.bif (fun _ => ?_) (fun h => by have := of_decide_eq_false h; omega)
    rw [hrep]
    refine Tt.bnd rfl (Tt.bnd (room_ok (by simp; omega)) (Tt.bnd (room_ok (by simp; omega)) (Tt.som ⟨_, rfl, ?_⟩)))
    rw [w64 (by omega), ← List.replicate_succ']
    rfl
  rintro _ rfl
  refine ⟨c0 (dge _), ?_⟩
  have hrow0 : ∀ n, n < N → row (List.replicate N (List.replicate R false)) n = List.replicate R false := by
    intro n hn
    unfold row
    rw [List.getD_eq_getElem?_getD, List.getElem?_replicate, if_pos hn]
    rfl
  have hbit0 : ∀ q, bit (List.replicate R false) q = false := by
    intro q
    unfold bit
    rw [List.getD_eq_getElem?_getD, List.getElem?_replicate]
    split <;> rfl
  refine Tt.cnt N (by omega) (fun k t => t.2 = (k : Int) ∧ t.1.length = N ∧ (∀ n, n < N → (row t.1 n).length = R) ∧ (∀ n b, p.Blocks[n]? = some b → ∀ q : Nat, q < R → bit (row t.1 n) q = (decide (n < k) && wE b q))) ?_ ?_ ?_
  · refine ⟨rfl, by simp, fun n hn => by rw [hrow0 n hn]; simp, fun n b hb q hq => ?_⟩
    have := lt_some hb
    rw [hrow0 n (by omega), hbit0]
    simp
  · rintro k hk ⟨x4, x5⟩ ⟨h1, h2, h3, h4⟩
    dsimp only at h1 h2 h3 h4
    subst h1
    refine Tt.bif (fun _ => ?_) (fun h => by have := of_decide_eq_false h; omega)
    obtain ⟨b, hb, hbm⟩ := lv_some (show k < p.Blocks.length by omega)
    refine Tt.bnd (by rw [idx_nat (by omega)]; exact hb) (Tt.bnd (row_at (by omega)) (Tt.bnd (ended_eq _ _) (Tt.som ⟨_, rfl, by rw [w64 (by omega)]; rfl, by simp [h2], fun n hn => ?_, fun n b' hb' q hq => ?_⟩)))
    · dsimp only
      rw [row_set (by omega)]
      split
      · rw [end_len, h3 _ (by omega)]
      · exact h3 n hn
    · dsimp only
      rw [show (k : Int).toNat = k by omega, row_set (by omega)]
      split
      · rename_i hnk
        subst hnk
        rw [hb] at hb'
        cases hb'
        rw [bit_end (by rw [h3 n hk]; exact hq), h4 n _ hb q hq]
        simp
      · rw [h4 n b' hb' q hq]
        have : decide (n < k + 1) = decide (n < k) := by congr 1; apply propext; omega
        rw [this]
  rintro ⟨x4, x5⟩ ⟨h1, h2, h3, h4⟩
  dsimp only at h1 h2 h3 h4
  subst h1
  refine ⟨c0 (dge _), ?_⟩
  have hI0 : LvI p R x4 (List.replicate N (List.replicate R false)) := by
    refine ⟨by omega, by simp [hN], fun n hn => h3 n (by omega), fun n hn => by rw [hrow0 n (by omega)]; simp, fun n b hb q hq h => ?_, fun n hn q hq h => ?_, fun n b hb q hq h => ?_⟩
    · rw [h4 n b hb q hq] at h
      simp only [Bool.and_eq_true] at h
      exact .inl h.2
    · rw [hrow0 n (by omega), hbit0] at h
      cases h
    · have := lt_some hb
      rw [h4 n b hb q hq, h]
      simp
      omega
  refine Tt.whil (fun t => LvI p R t.1 t.2.1 ∧ (t.2.2 = false → ∀ n b, p.Blocks[n]? = some b → Cl R t.1 t.2.1 n b)) (fun t => bif t.2.2 then unset t.2.1 + 1 else 0) ⟨hI0, by nofun⟩ ?_ ?_
  · have : N * R ≤ 12 * 40 := Nat.mul_le_mul hbk hR40
    show unset (List.replicate N (List.replicate R false)) + 1 < NN
    rw [un_rep]
    exact NN_big (by omega)
  rintro ⟨o0, i0, g0⟩ ⟨hI, hC⟩
  dsimp only at hI hC
  cases g0 with
  | false =>
    refine Tt.som (.inr (.inl ⟨_, rfl, Tt.som ?_⟩))
    exact lv_done hI (fun b hb s hs => (hq2 b hb).2 s hs) (hC rfl)
  | true =>
    show Tt ((loopM _ NN _).bind _) _
    refine Tt.cnt N (by omega) (fun k t => t.2.2.2 = ((N : Int) - 1 - (k : Int)) ∧ LvI p R t.1 t.2.1 ∧ unset t.2.1 ≤ unset i0 ∧ (t.2.2.1 = true → unset t.2.1 < unset i0) ∧ (t.2.2.1 = false → ∀ n b, N - k ≤ n → p.Blocks[n]? = some b → Cl R t.1 t.2.1 n b)) ?_ ?_ ?_
    · refine ⟨?_, hI, Nat.le_refl _, by nofun, fun _ n b hn hb => ?_⟩
      · dsimp only
        rw [w64 (by omega)]
        omega
      · have := lt_some hb
        omega
    · rintro k hk ⟨ot, it, g, j⟩ ⟨h1, hJ, hu, hg, hcl⟩
      dsimp only at h1 hJ hu hg hcl
      obtain ⟨n, hn⟩ : ∃ n : Nat, j = (n : Int) ∧ n + k + 1 = N := ⟨N - 1 - k, by omega, by omega⟩
      obtain ⟨rfl, hnk⟩ := hn
      obtain ⟨b, hb, hbm⟩ := lv_some (show n < p.Blocks.length by omega)
      obtain ⟨hins, hout⟩ := hq2 b hbm
      obtain ⟨hbl, hba⟩ := hf3 b hbm
      dsimp only
      refine Tt.bif (fun _ => ?_) (fun h => by have := of_decide_eq_false h; omega)
      refine Tt.bnd (outs_eq p n b hb hout) ?_
      have hol := outsL_len b
      refine Tt.cnt (outsL b).length (by omega) (fun m t => t.2 = (m : Int) ∧ LvI p R t.1 it ∧ (∀ n', n' ≠ n → row t.1 n' = row ot n') ∧ (∀ m', m' < m → ∀ s, (outsL b)[m']? = some s → ∀ q, q < R → bit (row it s.toNat) q = true → bit (row t.1 n) q = true)) ?_ ?_ ?_
      · exact ⟨rfl, hJ, fun _ _ => rfl, fun m' h => by omega⟩
      · rintro m hm ⟨y, ym⟩ ⟨g1, g2, g3, g4⟩
        dsimp only at g1 g2 g3 g4
        subst g1
        refine Tt.bif (fun _ => ?_) (fun h => by have := of_decide_eq_false h; omega)
        have hsm := List.getElem_mem hm
        have hse : (outsL b)[m]? = some (outsL b)[m] := List.getElem?_eq_getElem hm
        refine Tt.bnd (idx_get hm) ?_
        generalize (outsL b)[m] = s at hsm hse
        obtain ⟨hs0, hs1⟩ := hout s hsm
        obtain ⟨z, rfl⟩ : ∃ z : Nat, s = (z : Int) := ⟨s.toNat, by omega⟩
        refine Tt.bnd (row_at (by rw [g2.lo]; omega)) (Tt.bnd (row_at (by rw [g2.li]; omega)) ?_)
        have hr1 := g2.ro n (by omega)
        have hr2 := g2.ri z (by omega)
        refine Tt.bind (join_t _ _ (by rw [hr1, hr2]) (by omega)) fun c hc => ?_
        obtain ⟨c1', c2, c3, c4⟩ := hc
        refine Tt.som ⟨_, rfl, by rw [w64 (by omega)]; rfl, ?_, fun n' hn' => ?_, fun m' hm' s hs q hq h => ?_⟩
        · dsimp only
          rw [show (n : Int).toNat = n by omega]
          have hlt : n < y.length := by rw [g2.lo]; omega
          refine ⟨by simp [g2.lo], g2.li, fun n' hn' => ?_, g2.ri, fun n' b' hb' q hq h => ?_, g2.si, fun n' b' hb' q hq h => ?_⟩
          · rw [row_set hlt]
            split
            · rw [c1', hr1]
            · exact g2.ro n' hn'
          · rw [row_set hlt] at h
            split at h
            · rename_i he
              subst he
              rw [hb] at hb'
              cases hb'
              rw [c2 q (by rw [hr1]; exact hq)] at h
              simp only [Bool.or_eq_true] at h
              rcases h with h | h
              · exact g2.so _ _ hb q hq h
              · exact .inr ⟨_, hsm, g2.si _ (by omega) q hq h⟩
            · exact g2.so n' b' hb' q hq h
          · rw [row_set hlt]
            split
            · rename_i he
              subst he
              rw [c2 q (by rw [hr1]; exact hq), g2.eo _ _ hb' q hq h]
              rfl
            · exact g2.eo n' b' hb' q hq h
        · dsimp only
          rw [show (n : Int).toNat = n by omega, row_set (by rw [g2.lo]; omega), if_neg hn']
          exact g3 n' hn'
        · dsimp only
          rw [show (n : Int).toNat = n by omega, row_set (by rw [g2.lo]; omega), if_pos rfl, c2 q (by rw [hr1]; exact hq)]
          by_cases hmm : m' = m
          · subst hmm
            rw [hse] at hs
            cases hs
            rw [show ((z : Int)).toNat = z by omega] at h
            rw [h]
            simp
          · rw [g4 m' (by omega) s hs q hq h]
            rfl
      · rintro ⟨y, ym⟩ ⟨g1, g2, g3, g4⟩
        dsimp only at g1 g2 g3 g4
        subst g1
        refine ⟨c0 (dge _), ?_⟩
        have hr1 := g2.ro n (by omega)
        have hcln : slices_Clone (row y n) = some (row y n) := by
          unfold slices_Clone
          rw [room_ok (by simp; omega)]
          rfl
        refine Tt.bnd (row_at (by rw [g2.lo]; omega)) (Tt.bnd hcln (Tt.bnd (by rw [idx_nat (by omega)]; exact hb) ?_))
        refine Tt.cnt b.Ins.length (by omega) (fun m t => t = (trL (b.Ins.drop (b.Ins.length - m)) (row y n), (b.Ins.length : Int) - 1 - (m : Int))) ?_ ?_ ?_
        · rw [w64 (by omega)]
          simp [trL]
        · rintro m hm _ rfl
          refine Tt.bif (fun _ => ?_) (fun h => by have := of_decide_eq_false h; omega)
          obtain ⟨w, hw1, hw2⟩ : ∃ w : Nat, (b.Ins.length : Int) - 1 - (m : Int) = (w : Int) ∧ w + m + 1 = b.Ins.length := ⟨b.Ins.length - 1 - m, by omega, by omega⟩
          rw [hw1]
          have hwl : w < b.Ins.length := by omega
          refine Tt.bnd (idx_get hwl) (Tt.bnd (before_eq _ _ (hba _ (List.getElem_mem hwl))) (Tt.som ⟨_, rfl, ?_⟩))
          rw [show b.Ins.length - (m + 1) = w by omega, show b.Ins.length - m = w + 1 by omega, List.drop_eq_getElem_cons hwl, w64 (by omega)]
          refine Prod.ext rfl ?_
          show (w : Int) - 1 = _
          omega
        · rintro _ rfl
          refine ⟨c0 (by simp; omega), ?_⟩
          rw [Nat.sub_self, List.drop_zero]
          have hr2 := g2.ri n (by omega)
          refine Tt.bnd (row_at (by rw [g2.li]; omega)) ?_
          refine Tt.bind (join_t _ _ (by rw [hr2, tr_len, hr1]) (by rw [tr_len]; omega)) fun c hc => ?_
          obtain ⟨e1, e2, e3, e4⟩ := hc
          have hli : n < it.length := by rw [g2.li]; omega
          have hsnd : ∀ q : Nat, q < R → bit (trL b.Ins (row y n)) q = true → Lin p q n := by
            intro q hq h
            rw [bit_tr (by rw [hr1]; exact hq)] at h
            simp only [Bool.or_eq_true, Bool.and_eq_true, beq_iff_eq] at h
            rcases h with h | ⟨h, ho⟩
            · exact .use hb h
            · exact (Lin_iff hb).2 (.inr ⟨h, g2.so n b hb q hq ho⟩)
          have hNew : LvI p R y (it.set n c.2) := by
            refine ⟨g2.lo, by simp [g2.li], g2.ro, fun n' hn' => ?_, g2.so, fun n' hn' q hq h => ?_, g2.eo⟩
            · rw [row_set hli]
              split
              · rw [e1, hr2]
              · exact g2.ri n' hn'
            · rw [row_set hli] at h
              split at h
              · rename_i he
                subst he
                rw [e2 q (by rw [hr2]; exact hq)] at h
                simp only [Bool.or_eq_true] at h
                rcases h with h | h
                · exact g2.si _ hn' q hq h
                · exact hsnd q hq h
              · exact g2.si n' hn' q hq h
          have hun := un_set it n c.2 hli
          have hcnt := un_row (row it n) c.2 e1.symm (fun q hq h => by rw [e2 q hq, h]; rfl)
          have hz : IntKind.wrap .i64 ((n : Int) - 1) = (N : Int) - 1 - ((k + 1 : Nat) : Int) := by rw [w64 (by omega)]; omega
          refine Tt.bif (fun hgr => ?_) (fun hgr => ?_)
          · have hlt := hcnt.2 (by
              obtain ⟨q, hq, h1, h2⟩ := e3 hgr
              exact ⟨q, hq, by rw [e2 q hq, h1]; simp, h2⟩)
            refine Tt.som ⟨_, rfl, hz, hNew, ?_, fun _ => ?_, by nofun⟩ <;> dsimp only <;> rw [show (n : Int).toNat = n by omega] <;> omega
          · have hsame := e4 hgr
            have hit : it.set n c.2 = it := by rw [hsame, set_row hli]
            refine Tt.som ⟨_, rfl, hz, hNew, ?_, fun h => ?_, fun h n' b' hn' hb' => ?_⟩
            · rw [show (n : Int).toNat = n by omega, hit]; exact hu
            · rw [show (n : Int).toNat = n by omega, hit]; exact hg h
            · show Cl R y (it.set n c.2) n' b'
              rw [hit]
              by_cases he : n' = n
              · subst he
                rw [hb] at hb'
                cases hb'
                refine ⟨fun s hs q hq h => ?_, fun q hq h => ?_⟩
                · obtain ⟨m', hm', hse⟩ := mem_at hs
                  exact g4 m' hm' s hse q hq h
                · have : bit c.2 q = true := by
                    rw [e2 q (by rw [hr2]; exact hq), bit_tr (by rw [hr1]; exact hq)]
                    rcases h with h | ⟨h, ho⟩
                    · rw [h]; simp
                    · rw [h, ho]; simp
                  rw [hsame] at this
                  exact this
              · have := hcl h n' b' (by omega) hb'
                unfold Cl at this ⊢
                rw [g3 n' he]
                exact this
    · rintro ⟨ot, it, g, j⟩ ⟨h1, hJ, hu, hg, hcl⟩
      dsimp only at h1 hJ hu hg hcl
      refine ⟨c0 (by simp; omega), Tt.som (.inl ⟨_, rfl, ⟨hJ, fun h n b hb => hcl h n b (by omega) hb⟩, ?_⟩)⟩
      dsimp only
      cases g with
      | true => have := hg rfl; show unset it + 1 < unset i0 + 1; omega
      | false => show 0 < unset i0 + 1; omega
end Go.Proofs.YteoihjfnojgnnaaGreat
