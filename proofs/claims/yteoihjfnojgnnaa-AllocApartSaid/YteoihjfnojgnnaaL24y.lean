/- Plain laws on ranges: where a register is read, set or live, its range is. No program is in sight here. -/
import Derived.Test.YteoihjfnojgnnaaL24x
import Derived.Test.YteoihjfnojgnnaaL24r
import Derived.Test.YteoihjfnojgnnaaL24f
set_option linter.unusedVariables false
namespace Go.Proofs.Yteoihjfnojgnnaa

theorem wt_cov (x : RX) (n : Int) : Cov (wt x n) n := by
  unfold wt Cov
  cases h : x.Is
  · exact ⟨rfl, Int.le_refl _, Int.le_refl _⟩
  · refine ⟨rfl, ?_, ?_⟩
    · show min x.From n ≤ n
      omega
    · show n ≤ max x.To n
      omega
theorem wt_mono {x : RX} {t : Int} (n : Int) (h : Cov x t) : Cov (wt x n) t := by
  obtain ⟨h1, h2, h3⟩ := h
  unfold wt Cov
  rw [h1]
  refine ⟨rfl, ?_, ?_⟩
  · show min x.From n ≤ t
    omega
  · show t ≤ max x.To n
    omega
/-- What is covered stays so. -/
def Mono (X Y : Nat → RX) : Prop := ∀ q t, Cov (X q) t → Cov (Y q) t
theorem Mono.refl (X : Nat → RX) : Mono X X := fun _ _ h => h
theorem Mono.trans {X Y Z : Nat → RX} (h1 : Mono X Y) (h2 : Mono Y Z) : Mono X Z := fun q t h => h2 q t (h1 q t h)
theorem upd_mono (X : Nat → RX) (u n : Int) : Mono X (upd X u n) := by
  intro q t h
  unfold upd
  cases (u == (q : Int))
  · exact h
  · exact wt_mono n h
theorem upd_cov (X : Nat → RX) (q : Nat) (n : Int) : Cov (upd X (q : Int) n q) n := by
  unfold upd
  rw [c1 (by simp)]
  exact wt_cov _ _
theorem row_mono (X : Nat → RX) (l : List Bool) (n : Int) : Mono X (rowX X l n) := by
  intro q t h
  unfold rowX
  cases (bit l q)
  · exact h
  · exact wt_mono n h
theorem row_cov (X : Nat → RX) {l : List Bool} {q : Nat} (n : Int) (h : bit l q = true) : Cov (rowX X l n q) n := by
  unfold rowX
  rw [c1 h]
  exact wt_cov _ _
/-- A state later on. -/
theorem itr_mono {S : Type} (f : Nat → S → S) (s0 : S) (g : S → Nat → RX) (h : ∀ k s, Mono (g s) (g (f k s))) : ∀ n k, k ≤ n → Mono (g (itr f s0 k)) (g (itr f s0 n)) := by
  intro n
  induction n with
  | zero => intro k hk; rw [show k = 0 by omega]; exact Mono.refl _
  | succ n ih =>
    intro k hk
    by_cases h1 : k = n + 1
    · rw [h1]; exact Mono.refl _
    · exact (ih k (by omega)).trans (h n _)
theorem us_mono (us : List Int) (n : Int) (X : Nat → RX) : Mono X (usX us n X) := itr_mono (fun k X => upd X (us.getD k 0) n) X id (fun k s => upd_mono _ _ _) _ 0 (Nat.zero_le _)
theorem us_cov (us : List Int) (n : Int) (X : Nat → RX) (q : Nat) (h : (q : Int) ∈ us) : Cov (usX us n X q) n := by
  obtain ⟨k, hk, he⟩ := mem_at h
  have hm := itr_mono (fun k X => upd X (us.getD k 0) n) X id (fun k s => upd_mono _ _ _) us.length (k + 1) (by omega)
  refine hm q n ?_
  show Cov (upd (itr (fun k X => upd X (us.getD k 0) n) X k) (us.getD k 0) n q) n
  rw [getD_at he]
  exact upd_cov _ _ _
theorem ins_mono (i : Ins) (n : Int) (X : Nat → RX) : Mono X (insX i n X) := by
  unfold insX
  cases (defL i != (-1))
  · exact us_mono _ _ _
  · exact (us_mono _ _ _).trans (upd_mono _ _ _)
theorem ins_use (i : Ins) (n : Int) (X : Nat → RX) (q : Nat) (h : (q : Int) ∈ usesL i) : Cov (insX i n X q) n := by
  have := us_cov (usesL i) n X q h
  unfold insX
  cases (defL i != (-1))
  · exact this
  · exact upd_mono _ _ _ q n this
theorem ins_def (i : Ins) (n : Int) (X : Nat → RX) (q : Nat) (h : defL i = (q : Int)) (hn : -9223372036854775808 ≤ n + 1 ∧ n + 1 < 9223372036854775808) : Cov (insX i n X q) (n + 1) := by
  unfold insX
  rw [c1 (by rw [h]; simp only [bne_iff_ne, ne_eq]; omega), h, w64 hn]
  exact upd_cov _ _ _
/-- Where a block begins. -/
def PB (l : List GBlock) : Nat → Nat
  | 0 => 0
  | k + 1 => PB l k + 2 * (l.getD k dB).Ins.length + 1
theorem PB_le {l : List GBlock} (h : ∀ b ∈ l, b.Ins.length ≤ 60) : ∀ k, k ≤ l.length → PB l k ≤ 121 * k
  | 0, _ => Nat.le_refl _
  | k + 1, hk => by
    have ih := PB_le h k (by omega)
    obtain ⟨b, hb, hm⟩ := lv_some (show k < l.length by omega)
    have := h b hm
    unfold PB
    rw [getD_at hb]
    omega
def stX (b : GBlock) (k : Nat) (s : (Nat → RX) × Int) : (Nat → RX) × Int := (insX (b.Ins.getD k dI) s.2 s.1, IntKind.wrap .i64 (s.2 + 2))
theorem stX_mono (b : GBlock) (k : Nat) (s : (Nat → RX) × Int) : Mono s.1 (stX b k s).1 := ins_mono _ _ _
theorem blk_pos (b : GBlock) (pos : Nat) (X : Nat → RX) (hp : pos ≤ 100000) (hb : b.Ins.length ≤ 60) : ∀ k, k ≤ b.Ins.length → (itr (stX b) (X, (pos : Int)) k).2 = ((pos + 2 * k : Nat) : Int)
  | 0, _ => rfl
  | k + 1, hk => by
    have ih := blk_pos b pos X hp hb k (by omega)
    have e : (itr (stX b) (X, (pos : Int)) (k + 1)).2 = IntKind.wrap .i64 ((itr (stX b) (X, (pos : Int)) k).2 + 2) := rfl
    rw [e, ih, w64 (by omega)]
    omega
/-- What a block's ranges cover. -/
structure BlkC (b : GBlock) (li lo : List Bool) (pos : Nat) (Y : Nat → RX) : Prop where
  inn : ∀ q, bit li q = true → Cov (Y q) (pos : Int)
  use : ∀ k i, b.Ins[k]? = some i → ∀ q : Nat, (q : Int) ∈ usesL i → Cov (Y q) ((pos + 2 * k : Nat) : Int)
  dfn : ∀ k i, b.Ins[k]? = some i → ∀ q : Nat, defL i = (q : Int) → Cov (Y q) ((pos + 2 * k + 1 : Nat) : Int)
  out : ∀ q, bit lo q = true → Cov (Y q) ((pos + 2 * b.Ins.length : Nat) : Int)
theorem BlkC.mono {b : GBlock} {li lo : List Bool} {pos : Nat} {Y Z : Nat → RX} (h : BlkC b li lo pos Y) (m : Mono Y Z) : BlkC b li lo pos Z :=
  ⟨fun q hq => m _ _ (h.inn q hq), fun k i hi q hq => m _ _ (h.use k i hi q hq), fun k i hi q hq => m _ _ (h.dfn k i hi q hq), fun q hq => m _ _ (h.out q hq)⟩
theorem lt_of_some {α : Type} {l : List α} {k : Nat} {x : α} (h : l[k]? = some x) : k < l.length := by
  rcases Nat.lt_or_ge k l.length with h' | h'
  · exact h'
  · rw [List.getElem?_eq_none h'] at h; cases h
theorem blk_cov (b : GBlock) (li lo : List Bool) (X : Nat → RX) (pos : Nat) (hp : pos ≤ 100000) (hb : b.Ins.length ≤ 60) :
    Mono X (blkF b li lo (X, (pos : Int))).1 ∧ (blkF b li lo (X, (pos : Int))).2 = ((pos + 2 * b.Ins.length + 1 : Nat) : Int) ∧ BlkC b li lo pos (blkF b li lo (X, (pos : Int))).1 := by
  have hpos := blk_pos b pos (rowX X li (pos : Int)) hp hb
  have hm := itr_mono (stX b) (rowX X li (pos : Int), (pos : Int)) (fun s => s.1) (stX_mono b) b.Ins.length
  have hm0 : Mono (rowX X li (pos : Int)) (itr (stX b) (rowX X li (pos : Int), (pos : Int)) b.Ins.length).1 := hm 0 (Nat.zero_le _)
  have hk1 : ∀ k, k < b.Ins.length → ∀ i, b.Ins[k]? = some i → Mono (insX i ((pos + 2 * k : Nat) : Int) (itr (stX b) (rowX X li (pos : Int), (pos : Int)) k).1) (itr (stX b) (rowX X li (pos : Int), (pos : Int)) b.Ins.length).1 := by
    intro k hk i hi
    have h1 := hm (k + 1) (by omega)
    have e : (itr (stX b) (rowX X li (pos : Int), (pos : Int)) (k + 1)).1 = insX (b.Ins.getD k dI) (itr (stX b) (rowX X li (pos : Int), (pos : Int)) k).2 (itr (stX b) (rowX X li (pos : Int), (pos : Int)) k).1 := rfl
    have h1 : Mono (itr (stX b) (rowX X li (pos : Int), (pos : Int)) (k + 1)).1 (itr (stX b) (rowX X li (pos : Int), (pos : Int)) b.Ins.length).1 := h1
    rw [e, getD_at hi, hpos k (by omega)] at h1
    exact h1
  have hend := hpos _ (Nat.le_refl _)
  have eB : blkF b li lo (X, (pos : Int)) = (rowX (itr (stX b) (rowX X li (pos : Int), (pos : Int)) b.Ins.length).1 lo (itr (stX b) (rowX X li (pos : Int), (pos : Int)) b.Ins.length).2, IntKind.wrap .i64 ((itr (stX b) (rowX X li (pos : Int), (pos : Int)) b.Ins.length).2 + 1)) := rfl
  rw [eB, hend]
  have hk2 := fun k hk i hi q t h => hk1 k hk i hi q t h
  generalize (itr (stX b) (rowX X li (pos : Int), (pos : Int)) b.Ins.length).1 = Y at hm0 hk2
  refine ⟨(row_mono X li _).trans (hm0.trans (row_mono _ _ _)), by dsimp only; rw [w64 (by omega)]; omega, ⟨fun q hq => ?_, fun k i hi q hq => ?_, fun k i hi q hq => ?_, fun q hq => row_cov _ _ hq⟩⟩
  · exact row_mono _ _ _ _ _ (hm0 _ _ (row_cov X _ hq))
  · exact row_mono _ _ _ _ _ (hk2 k (lt_of_some hi) i hi q _ (ins_use _ _ _ _ hq))
  · exact row_mono _ _ _ _ _ (hk2 k (lt_of_some hi) i hi q _ (ins_def _ _ _ _ hq (by have := lt_of_some hi; omega)))
/-- What all ranges cover. -/
structure AllC (p : Proc) (inn out : List (List Bool)) (Y : Nat → RX) : Prop where
  par : ∀ q : Nat, (q : Int) < p.Params → Cov (Y q) 0
  blk : ∀ n b, p.Blocks[n]? = some b → BlkC b (row inn n) (row out n) (PB p.Blocks n) Y
def alX (p : Proc) (inn out : List (List Bool)) (k : Nat) (s : (Nat → RX) × Int) : (Nat → RX) × Int := blkF (p.Blocks.getD k dB) (row inn k) (row out k) s
theorem all_at (p : Proc) (hp : Rgt p) (inn out : List (List Bool)) : ∀ k, k ≤ p.Blocks.length → (itr (alX p inn out) (X0 p.Params, 0) k).2 = ((PB p.Blocks k : Nat) : Int) ∧ Mono (X0 p.Params) (itr (alX p inn out) (X0 p.Params, 0) k).1 ∧
      ∀ n, n < k → ∀ b, p.Blocks[n]? = some b → BlkC b (row inn n) (row out n) (PB p.Blocks n) (itr (alX p inn out) (X0 p.Params, 0) k).1 := by
  have hb60 : ∀ b ∈ p.Blocks, b.Ins.length ≤ 60 := fun b hb => (hp.few.2.2 b hb).1
  have hbk := hp.blk
  intro k
  induction k with
  | zero => intro _; exact ⟨rfl, Mono.refl _, fun n hn => by omega⟩
  | succ k ih =>
    intro hk
    obtain ⟨i1, i0, i2⟩ := ih (by omega)
    obtain ⟨b, hb, hm⟩ := lv_some (show k < p.Blocks.length by omega)
    have hle := PB_le hb60 k (by omega)
    have hst : itr (alX p inn out) (X0 p.Params, 0) (k + 1) = blkF b (row inn k) (row out k) ((itr (alX p inn out) (X0 p.Params, 0) k).1, ((PB p.Blocks k : Nat) : Int)) := by
      have e : itr (alX p inn out) (X0 p.Params, 0) (k + 1) = blkF (p.Blocks.getD k dB) (row inn k) (row out k) (itr (alX p inn out) (X0 p.Params, 0) k) := rfl
      rw [e, getD_at hb, ← i1]
    obtain ⟨c1, c2, c3⟩ := blk_cov b (row inn k) (row out k) (itr (alX p inn out) (X0 p.Params, 0) k).1 (PB p.Blocks k) (by omega) (hb60 b hm)
    rw [hst]
    refine ⟨?_, i0.trans c1, fun n hn b' hb' => ?_⟩
    · rw [c2]
      have e : PB p.Blocks (k + 1) = PB p.Blocks k + 2 * (p.Blocks.getD k dB).Ins.length + 1 := rfl
      rw [e, getD_at hb]
    · by_cases hnk : n = k
      · subst hnk
        rw [hb] at hb'
        cases hb'
        exact c3
      · exact (i2 n (by omega) b' hb').mono c1
theorem all_cov (p : Proc) (hp : Rgt p) (inn out : List (List Bool)) : AllC p inn out (allX p inn out).1 := by
  obtain ⟨_, h1, h2⟩ := all_at p hp inn out p.Blocks.length (Nat.le_refl _)
  have e : allX p inn out = itr (alX p inn out) (X0 p.Params, 0) p.Blocks.length := rfl
  rw [e]
  refine ⟨fun q hq => h1 q 0 ?_, fun n b hb => h2 n (lt_some hb) b hb⟩
  unfold X0
  rw [c1 (dt hq)]
  exact wt_cov _ _

/-! Liveness and ranges. -/
def LiveP (p : Proc) (b : GBlock) (k : Nat) (q : Nat) : Prop := wthI (b.Ins.drop k) q = 1 ∨ (wthI (b.Ins.drop k) q = 0 ∧ OutP p q b)
theorem live_to {p : Proc} {inn out : List (List Bool)} {Y : Nat → RX} {R : Nat} (hc : AllC p inn out Y) (hD : LvD p R inn out) {n : Nat} {b : GBlock} (hb : p.Blocks[n]? = some b) {q : Nat} (hq : q < R) : ∀ (d k : Nat), k + d = b.Ins.length → LiveP p b k q → (Y q).Is = true ∧ ((PB p.Blocks n + 2 * k : Nat) : Int) ≤ (Y q).To := by
  have hB := hc.blk n b hb
  intro d
  induction d with
  | zero =>
    intro k hk h
    have hk : k = b.Ins.length := by omega
    subst hk
    unfold LiveP at h
    rw [List.drop_length] at h
    rcases h with h | ⟨_, h⟩
    · cases h
    · obtain ⟨a1, a2, a3⟩ := hB.out q ((hD.bo n b hb q hq).2 h)
      exact ⟨a1, a3⟩
  | succ d ih =>
    intro k hk h
    have hlt : k < b.Ins.length := by omega
    have hi : b.Ins[k]? = some b.Ins[k] := List.getElem?_eq_getElem hlt
    unfold LiveP at h
    rw [List.drop_eq_getElem_cons hlt, wthI_cons] at h
    cases hu : (usesL b.Ins[k]).contains (q : Int) with
    | true =>
      obtain ⟨a1, a2, a3⟩ := hB.use k _ hi q (by simpa using hu)
      exact ⟨a1, a3⟩
    | false =>
      rw [hu, cond_false] at h
      cases hd : (defL b.Ins[k] == (q : Int)) with
      | true =>
        rw [hd, cond_true] at h
        rcases h with h | ⟨h, _⟩ <;> cases h
      | false =>
        rw [hd, cond_false] at h
        obtain ⟨a1, a2⟩ := ih (k + 1) (by omega) h
        exact ⟨a1, by omega⟩
theorem live_fr {p : Proc} {inn out : List (List Bool)} {Y : Nat → RX} {R : Nat} (hc : AllC p inn out Y) (hD : LvD p R inn out) {n : Nat} {b : GBlock} (hb : p.Blocks[n]? = some b) {q : Nat} (hq : q < R) : ∀ (k : Nat), k ≤ b.Ins.length → LiveP p b k q → (Y q).From ≤ ((PB p.Blocks n + 2 * k : Nat) : Int) := by
  have hB := hc.blk n b hb
  intro k
  induction k with
  | zero =>
    intro _ h
    unfold LiveP at h
    rw [List.drop_zero] at h
    have hl : bit (row inn n) q = true := (hD.bi n (lt_some hb) q hq).2 ((Lin_iff hb).2 h)
    exact (hB.inn q hl).2.1
  | succ k ih =>
    intro hk h
    have hlt : k < b.Ins.length := by omega
    have hi : b.Ins[k]? = some b.Ins[k] := List.getElem?_eq_getElem hlt
    by_cases hd : defL b.Ins[k] = (q : Int)
    · have := (hB.dfn k _ hi q hd).2.1
      omega
    · have hl : LiveP p b k q := by
        unfold LiveP
        rw [List.drop_eq_getElem_cons hlt, wthI_cons]
        cases hu : (usesL b.Ins[k]).contains (q : Int) with
        | true => exact .inl rfl
        | false =>
          rw [cond_false, c0 (by simpa using hd)]
          exact h
      have := ih (by omega) hl
      omega
theorem live_at {p : Proc} {inn out : List (List Bool)} {Y : Nat → RX} {R : Nat} (hc : AllC p inn out Y) (hD : LvD p R inn out) {n : Nat} {b : GBlock} (hb : p.Blocks[n]? = some b) {q : Nat} (hq : q < R) {k : Nat} (hk : k ≤ b.Ins.length) (h : LiveP p b k q) : Cov (Y q) ((PB p.Blocks n + 2 * k : Nat) : Int) :=
  ⟨(live_to hc hD hb hq (b.Ins.length - k) k (by omega) h).1, live_fr hc hD hb hq k hk h, (live_to hc hD hb hq (b.Ins.length - k) k (by omega) h).2⟩
/-- Behind an instruction that sets another register. -/
theorem live_next {p : Proc} {inn out : List (List Bool)} {Y : Nat → RX} {R : Nat} (hc : AllC p inn out Y) (hD : LvD p R inn out) {n : Nat} {b : GBlock} (hb : p.Blocks[n]? = some b) {q : Nat} (hq : q < R) {k : Nat} {i : Ins} (hi : b.Ins[k]? = some i) (hd : defL i ≠ (q : Int)) (h : LiveP p b (k + 1) q) : Cov (Y q) ((PB p.Blocks n + 2 * k + 1 : Nat) : Int) := by
  have hlt : k < b.Ins.length := by
    rcases Nat.lt_or_ge k b.Ins.length with h | h
    · exact h
    · rw [List.getElem?_eq_none h] at hi; cases hi
  have he : b.Ins[k] = i := by rw [List.getElem?_eq_getElem hlt] at hi; exact Option.some.inj hi
  have hl : LiveP p b k q := by
    unfold LiveP
    rw [List.drop_eq_getElem_cons hlt, wthI_cons, he]
    cases hu : (usesL i).contains (q : Int) with
    | true => exact .inl rfl
    | false =>
      rw [cond_false, c0 (by simpa using hd)]
      exact h
  have h1 := (live_at hc hD hb hq (show k + 1 ≤ b.Ins.length by omega) h)
  have h2 := live_at hc hD hb hq (show k ≤ b.Ins.length by omega) hl
  obtain ⟨a1, a2, a3⟩ := h1
  obtain ⟨b1, b2, b3⟩ := h2
  exact ⟨a1, by omega, by omega⟩
end Go.Proofs.Yteoihjfnojgnnaa
