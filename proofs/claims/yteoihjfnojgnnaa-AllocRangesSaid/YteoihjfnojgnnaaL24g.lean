/- Plain laws on the models of ranges: those of the program are those of the document. No program is in sight here. -/
import Derived.Test.YteoihjfnojgnnaaL24f
set_option linter.unusedVariables false
namespace Go.Proofs.Yteoihjfnojgnnaa

theorem awake_eq : law24_awake = some true := by decide +kernel

def wt (x : ref24Reach) (n : Int) : ref24Reach := bif !x.Is then ⟨x.R, n, n, true⟩ else ⟨x.R, min x.From n, max x.To n, true⟩
def cvR (x : ref24Reach) : AllocReach := ⟨x.R, x.From, x.To, x.Is⟩
theorem with_eq (x : ref24Reach) (n : Int) : ref24_with x n = some (wt x n) := by
  unfold ref24_with wt
  cases x.Is <;> rfl
theorem at_eq (x : ref24Reach) (n : Int) : alloc_reach_at (cvR x) n = some (cvR (wt x n)) := by
  unfold alloc_reach_at wt cvR
  obtain ⟨a, b, c, d⟩ := x
  cases d <;> rfl
def repL (R : Nat) (X : Nat → ref24Reach) : List AllocReach := (List.range R).map (fun q => cvR (X q))
theorem repL_len (R : Nat) (X : Nat → ref24Reach) : (repL R X).length = R := by simp [repL]
theorem repL_get {R : Nat} {X : Nat → ref24Reach} {q : Nat} (h : q < R) : (repL R X)[q]? = some (cvR (X q)) := by simp [repL, h]
theorem repL_idx {R : Nat} {X : Nat → ref24Reach} {u : Int} (h : 0 ≤ u ∧ u < R) : idx (repL R X) u = some (cvR (X u.toNat)) := by
  rw [idx_nat h.1]
  exact repL_get (by omega)
theorem repL_ext {R : Nat} {X Y : Nat → ref24Reach} (h : ∀ q, q < R → X q = Y q) : repL R X = repL R Y := by
  unfold repL
  apply List.map_congr_left
  intro q hq
  rw [h q (by simpa using hq)]
theorem repL_set {R : Nat} {X : Nat → ref24Reach} {u : Nat} {y : ref24Reach} (h : u < R) : (repL R X).set u (cvR y) = repL R (fun q => if q = u then y else X q) := by
  apply List.ext_getElem?
  intro j
  by_cases hj : j < R
  · rw [repL_get hj]
    by_cases hju : j = u
    · subst hju
      rw [List.getElem?_set_self (by rw [repL_len]; exact h), if_pos rfl]
    · rw [List.getElem?_set_ne (fun e => hju e.symm), repL_get hj, if_neg hju]
  · rw [List.getElem?_eq_none (by rw [List.length_set, repL_len]; omega), List.getElem?_eq_none (by rw [repL_len]; omega)]
def upd (X : Nat → ref24Reach) (u : Int) (n : Int) : Nat → ref24Reach := fun q => bif u == (q : Int) then wt (X q) n else X q
theorem repL_upd {R : Nat} {X : Nat → ref24Reach} {u n : Int} (h : 0 ≤ u ∧ u < R) : (repL R X).set u.toNat (cvR (wt (X u.toNat) n)) = repL R (upd X u n) := by
  rw [repL_set (by omega)]
  refine repL_ext fun q hq => ?_
  unfold upd
  by_cases he : q = u.toNat
  · rw [if_pos he, c1 (by simp; omega), he]
  · rw [if_neg he, c0 (by simp; omega)]
def rowX (X : Nat → ref24Reach) (l : List Bool) (n : Int) : Nat → ref24Reach := fun q => bif bit l q then wt (X q) n else X q
theorem row_loop {A : Type} {K : List AllocReach × Int → Option A} {g : Unit → Option A} {Y : Option A} {R : Nat} {X : Nat → ref24Reach} {l : List Bool} {pos : Int} {body : List AllocReach × Int → Option (Lp (List AllocReach × Int) Unit)} (hl : l.length = R) (hR : R ≤ 40) (hX : K (repL R (rowX X l pos), (l.length : Int)) = Y)
    (hs : ∀ (k : Nat) (h : k < l.length) (y : List AllocReach), body (y, (k : Int)) = (jn (fun kk2 => (idx l (k : Int)).bind fun u8 => bif u8 then ((idx y (k : Int)).bind fun u9 => (idx y (k : Int)).bind fun u10 => (alloc_reach_at u10 pos).bind fun y3 => kk2 (List.set y (Int.toNat (k : Int)) y3)) else (kk2 y)) (fun (x9 : List AllocReach) => some (Lp.go (x9, IntKind.wrap .i64 ((k : Int) + 1))))))
    (he : ∀ y, body (y, (l.length : Int)) = some (.brk (y, (l.length : Int)))) : ((loopM body NN (repL R X, 0)).bind fun o => o.thn K g) = Y := by
  refine run_bind (fun k => (repL R (fun q => bif decide (q < k) && bit l q then wt (X q) pos else X q), (k : Int))) l.length (.brk (repL R (rowX X l pos), (l.length : Int))) rfl (by omega) (fun k hk => ?_) ?_ trivial hX
  · rw [hs k hk, bit_at hk]
    refine (jn_to (b := repL R (fun q => bif decide (q < k + 1) && bit l q then wt (X q) pos else X q)) ?_).trans (by rw [w64 (by omega)]; rfl)
    rw [Option.bind_some]
    cases hb : bit l k with
    | true =>
      have hkk : (bif decide (k < k) && bit l k then wt (X k) pos else X k) = X k := c0 (by simp)
      rw [cond_true, repL_idx (by omega), Option.bind_some, Option.bind_some, show ((k : Int)).toNat = k by omega, hkk, at_eq, Option.bind_some, repL_set (by omega)]
      congr 1
      refine repL_ext fun q hq => ?_
      by_cases hqk : q = k
      · subst hqk
        rw [if_pos rfl, c1 (by simp [hb])]
      · rw [if_neg hqk]
        have : decide (q < k + 1) = decide (q < k) := by congr 1; apply propext; omega
        rw [this]
    | false =>
      rw [cond_false]
      congr 1
      refine repL_ext fun q hq => ?_
      by_cases hqk : q = k
      · subst hqk
        rw [hb]
        simp
      · have : decide (q < k + 1) = decide (q < k) := by congr 1; apply propext; omega
        rw [this]
  · have : repL R (fun q => bif decide (q < l.length) && bit l q then wt (X q) pos else X q) = repL R (rowX X l pos) := by
      refine repL_ext fun q hq => ?_
      unfold rowX
      rw [show decide (q < l.length) = true by simp; omega, Bool.true_and]
    rw [this]
    exact he _
def usX (us : List Int) (pos : Int) (X : Nat → ref24Reach) : Nat → ref24Reach := itr (fun k X => upd X (us.getD k 0) pos) X us.length
def insX (i : Ins) (pos : Int) (X : Nat → ref24Reach) : Nat → ref24Reach := bif defL i != (-1) then upd (usX (usesL i) pos X) (defL i) (IntKind.wrap .i64 (pos + 1)) else usX (usesL i) pos X
def dI : Ins := ⟨0, 0, 0, 0, 0, 0, 0, 0, 0, [], false⟩
def dB : GBlock := ⟨[], 0, 0, 0, 0⟩
def blkX (b : GBlock) (pos : Int) (X : Nat → ref24Reach) : (Nat → ref24Reach) × Int := itr (fun k s => (insX (b.Ins.getD k dI) s.2 s.1, IntKind.wrap .i64 (s.2 + 2))) (X, pos) b.Ins.length
def blkF (b : GBlock) (li lo : List Bool) (s : (Nat → ref24Reach) × Int) : (Nat → ref24Reach) × Int :=
  (rowX (blkX b s.2 (rowX s.1 li s.2)).1 lo (blkX b s.2 (rowX s.1 li s.2)).2, IntKind.wrap .i64 ((blkX b s.2 (rowX s.1 li s.2)).2 + 1))
def X0 (pr : Int) : Nat → ref24Reach := fun q => bif decide ((q : Int) < pr) then wt ⟨q, 0, 0, false⟩ 0 else ⟨q, 0, 0, false⟩
def allX (p : Proc) (inn out : List (List Bool)) : (Nat → ref24Reach) × Int := itr (fun k s => blkF (p.Blocks.getD k dB) (row inn k) (row out k) s) (X0 p.Params, 0) p.Blocks.length
theorem getD_at {α : Type} {l : List α} {k : Nat} {d x : α} (h : l[k]? = some x) : l.getD k d = x := by rw [List.getD_eq_getElem?_getD, h]; rfl

theorem ranges_eq (p : Proc) (hp : Rgt p) (inn out : List (List Bool)) (hL : flow_Live p = some (inn, out)) (hD : LvD p p.Regs.toNat inn out) : alloc_ranges p = some (repL p.Regs.toNat (allX p inn out).1) := by
  obtain ⟨⟨hf1, hf2, hf3⟩, ⟨hq0, hq1, hq2⟩, hrg, hbk⟩ := hp
  have hrep : repl (max p.Regs 0) (⟨0, 0, 0, false⟩ : AllocReach) = some (repL p.Regs.toNat (fun _ => ⟨0, 0, 0, false⟩)) := by
    unfold repl
    rw [if_pos (by omega), show max p.Regs 0 = p.Regs by omega]
    congr 1
    apply List.ext_getElem?
    intro j
    rw [List.getElem?_replicate]
    by_cases h : j < p.Regs.toNat
    · rw [if_pos h, repL_get h]; rfl
    · rw [if_neg h, List.getElem?_eq_none (by rw [repL_len]; omega)]
  unfold alloc_ranges
  rw [hrep, Option.bind_some, repL_len]
  have hRR : (p.Regs.toNat : Int) = p.Regs := by omega
  have hregs : ∀ b ∈ p.Blocks, ∀ i ∈ b.Ins, InsP p.Regs.toNat i := by rw [hRR]; exact fun b hb => (hq2 b hb).1
  obtain ⟨D1, D2, D3, D4, _, _⟩ := hD
  have hR40 : p.Regs.toNat ≤ 40 := by omega
  generalize p.Regs.toNat = R at *
  refine run_bind (fun k => (repL R (fun q => bif decide (q < k) then X0 p.Params q else ⟨0, 0, 0, false⟩), (k : Int))) R (.brk (repL R (X0 p.Params), (R : Int))) rfl (by omega) (fun k hk => ?_) ?_ trivial ?_
  · refine (c1 (dlt hk)).trans ?_
    have hkk : (bif decide (k < k) then X0 p.Params k else (⟨0, 0, 0, false⟩ : ref24Reach)) = ⟨0, 0, 0, false⟩ := c0 (by simp)
    refine (jn_to (b := repL R (fun q => bif decide (q < k + 1) then X0 p.Params q else ⟨0, 0, 0, false⟩)) ?_).trans (by rw [w64 (by omega)]; rfl)
    have hgo : ∀ y, (repL R (fun q => bif decide (q < k) then X0 p.Params q else (⟨0, 0, 0, false⟩ : ref24Reach))).set k (cvR y) = repL R (fun q => if q = k then y else bif decide (q < k) then X0 p.Params q else ⟨0, 0, 0, false⟩) := fun y => repL_set hk
    have hfin : ∀ y, y = X0 p.Params k → repL R (fun q => if q = k then y else bif decide (q < k) then X0 p.Params q else (⟨0, 0, 0, false⟩ : ref24Reach)) = repL R (fun q => bif decide (q < k + 1) then X0 p.Params q else ⟨0, 0, 0, false⟩) := by
      rintro _ rfl
      refine repL_ext fun q hq => ?_
      by_cases hqk : q = k
      · subst hqk
        rw [if_pos rfl, c1 (by simp)]
      · rw [if_neg hqk]
        have : decide (q < k + 1) = decide (q < k) := by congr 1; apply propext; omega
        rw [this]
    rw [repL_idx (by omega), Option.bind_some, Option.bind_some, show ((k : Int)).toNat = k by omega, hkk]
    have e1 : ({ cvR (⟨0, 0, 0, false⟩ : ref24Reach) with r := (k : Int) } : AllocReach) = cvR ⟨k, 0, 0, false⟩ := rfl
    rw [e1]
    by_cases hpar : (k : Int) < p.Params
    · rw [c1 (dt hpar), hgo, repL_idx (by omega), Option.bind_some, Option.bind_some, show ((k : Int)).toNat = k by omega, if_pos rfl, at_eq, Option.bind_some, repL_set hk]
      congr 1
      rw [← hfin (wt ⟨k, 0, 0, false⟩ 0) (by unfold X0; rw [c1 (dt hpar)])]
      refine repL_ext fun q hq => ?_
      by_cases hqk : q = k
      · rw [if_pos hqk, if_pos hqk]
      · rw [if_neg hqk, if_neg hqk, if_neg hqk]
    · rw [c0 (df hpar), hgo]
      congr 1
      exact hfin _ (by unfold X0; rw [c0 (df hpar)])
  · have : repL R (fun q => bif decide (q < R) then X0 p.Params q else (⟨0, 0, 0, false⟩ : ref24Reach)) = repL R (X0 p.Params) := repL_ext fun q hq => c1 (by simpa using hq)
    rw [this]
    exact c0 (dge _)
  show (flow_Live p).bind _ = _
  rw [hL, Option.bind_some]
  refine itr_bind p.Blocks.length (fun k s => blkF (p.Blocks.getD k dB) (row inn k) (row out k) s) (fun s k => (repL R s.1, s.2, k)) (X0 p.Params, 0) (fun _ _ => True) rfl trivial (by omega) (fun k hk s _ => ⟨?_, trivial⟩) (fun s _ => c0 (dge _)) fun _ => rfl
  obtain ⟨X, pos⟩ := s
  refine (c1 (dlt hk)).trans ?_
  obtain ⟨b, hb, hbm⟩ := lv_some hk
  have hgd : p.Blocks.getD k dB = b := getD_at hb
  obtain ⟨hbl, hba⟩ := hf3 b hbm
  have hins := hregs b hbm
  rw [hgd, idx_nat (by omega), show ((k : Int)).toNat = k by omega, hb, Option.bind_some]
  dsimp only
  rw [row_at (show k < inn.length by omega), Option.bind_some]
  have hri := D4 k hk
  have hro := D3 k hk
  refine row_loop (R := R) (X := X) (l := row inn k) (pos := pos) hri hR40 ?_ (fun j hj y => c1 (dlt hj)) (fun y => c0 (dge _))
  dsimp only
  refine itr_bind b.Ins.length (fun k s => (insX (b.Ins.getD k dI) s.2 s.1, IntKind.wrap .i64 (s.2 + 2))) (fun s k => (repL R s.1, s.2, k)) (rowX X (row inn k) pos, pos) (fun _ _ => True) rfl trivial (by omega) (fun j hj s _ => ⟨?_, trivial⟩) (fun s _ => c0 (dge _)) fun _ => ?_
  · obtain ⟨Y, po⟩ := s
    refine (c1 (dlt hj)).trans ?_
    have hi : b.Ins[j]? = some b.Ins[j] := List.getElem?_eq_getElem hj
    have him : b.Ins[j] ∈ b.Ins := List.getElem_mem hj
    rw [idx_get hj, Option.bind_some]
    generalize b.Ins[j] = i at hi him
    rw [getD_at hi]
    obtain ⟨hu, hd⟩ := hins i him
    rw [Uses_eq i (hba i him), Option.bind_some]
    have hul := usesL_len i (hba i him)
    refine itr_bind (usesL i).length (fun k X => upd X ((usesL i).getD k 0) po) (fun X k => (repL R X, k)) Y (fun _ _ => True) rfl trivial (by omega) (fun l hl Z _ => ⟨?_, trivial⟩) (fun s _ => c0 (dge _)) fun _ => ?_
    · refine (c1 (dlt hl)).trans ?_
      have hum := hu _ (List.getElem_mem hl)
      have hgu : (usesL i).getD l 0 = (usesL i)[l] := getD_at (List.getElem?_eq_getElem hl)
      rw [idx_get hl, Option.bind_some, repL_idx hum, Option.bind_some, Option.bind_some, at_eq, Option.bind_some, repL_upd hum, hgu]
    · dsimp only [Lp.thn]
      refine (jn_to (b := repL R (insX i po Y)) ?_).trans rfl
      rw [Def_eq, Option.bind_some]
      unfold insX usX
      cases hdd : (defL i != (-1)) with
      | false => rfl
      | true =>
        have hd' : InR R (defL i) := by
          rcases hd with hd | hd
          · rw [hd] at hdd; cases hdd
          · exact hd
        rw [cond_true, cond_true, repL_idx hd', Option.bind_some, Option.bind_some, at_eq, Option.bind_some, repL_upd hd']
  · dsimp only [Lp.thn]
    rw [row_at (show k < out.length by omega), Option.bind_some]
    refine row_loop (R := R) (l := row out k) hro hR40 ?_ (fun j hj y => c1 (dlt hj)) (fun y => c0 (dge _))
    rfl

theorem rRange_eq (p : Proc) (hp : Rgt p) (inn out : List (List Bool)) (hD : LvD p p.Regs.toNat inn out) (r : Nat) (hr : (r : Int) < p.Regs) : ref24_Range p r = some ((allX p inn out).1 r) := by
  have hp' := hp
  obtain ⟨⟨hf1, hf2, hf3⟩, ⟨hq0, hq1, hq2⟩, hrg, hbk⟩ := hp
  obtain ⟨D1, D2, D3, D4, D5, D6⟩ := hD
  unfold ref24_Range
  refine (jn_to (b := X0 p.Params r) ?_).trans ?_
  · unfold X0
    rw [with_eq]
    cases decide ((r : Int) < p.Params) <;> rfl
  refine itr_bind p.Blocks.length (fun k s => blkF (p.Blocks.getD k dB) (row inn k) (row out k) s) (fun s k => (s.2, k, s.1 r)) (X0 p.Params, 0) (fun _ _ => True) rfl trivial (by omega) (fun k hk s _ => ⟨?_, trivial⟩) (fun s _ => c0 (dge _)) fun _ => rfl
  obtain ⟨X, pos⟩ := s
  refine (c1 (dlt hk)).trans ?_
  obtain ⟨b, hb, hbm⟩ := lv_some hk
  have hgd : p.Blocks.getD k dB = b := getD_at hb
  obtain ⟨hbl, hba⟩ := hf3 b hbm
  have hi0 : ref16_Live p k 0 r = some (bit (row inn k) r) := by
    obtain ⟨z, h1, h2⟩ := rLive_t p hp' k b hb 0 (by omega) r
    have h1 : ref16_Live p (k : Int) 0 (r : Int) = some z := h1
    rw [h1]
    congr 1
    rw [List.drop_zero, ← Lin_iff hb, ← D6 k hk r (by omega)] at h2
    exact Bool.eq_iff_iff.2 h2
  have hi1 : ref16_Live p k (b.Ins.length : Int) r = some (bit (row out k) r) := by
    obtain ⟨z, h1, h2⟩ := rLive_t p hp' k b hb b.Ins.length (by omega) r
    rw [h1]
    congr 1
    rw [List.drop_length, show wthI [] (r : Int) = 0 from rfl] at h2
    have : (z = true ↔ bit (row out k) r = true) := by
      rw [D5 k b hb r (by omega), h2]
      simp
    exact Bool.eq_iff_iff.2 this
  rw [hgd, idx_nat (by omega), show ((k : Int)).toNat = k by omega, hb, Option.bind_some]
  refine (jn_to (b := rowX X (row inn k) pos r) ?_).trans ?_
  · rw [hi0, Option.bind_some, with_eq, Option.bind_some]
    unfold rowX
    cases bit (row inn k) r <;> rfl
  refine itr_bind b.Ins.length (fun k s => (insX (b.Ins.getD k dI) s.2 s.1, IntKind.wrap .i64 (s.2 + 2))) (fun s k => (s.2, k, s.1 r)) (rowX X (row inn k) pos, pos) (fun _ _ => True) rfl trivial (by omega) (fun j hj s _ => ⟨?_, trivial⟩) (fun s _ => c0 (dge _)) fun _ => ?_
  · obtain ⟨Y, po⟩ := s
    refine (c1 (dlt hj)).trans ?_
    have hi : b.Ins[j]? = some b.Ins[j] := List.getElem?_eq_getElem hj
    have him : b.Ins[j] ∈ b.Ins := List.getElem_mem hj
    rw [idx_get hj, Option.bind_some]
    generalize b.Ins[j] = i at hi him
    rw [getD_at hi, rUses_eq i (hba i him), Option.bind_some]
    have hul := usesL_len i (hba i him)
    refine itr_bind (usesL i).length (fun k X => upd X ((usesL i).getD k 0) po) (fun X k => (k, X r)) Y (fun _ _ => True) rfl trivial (by omega) (fun l hl Z _ => ⟨?_, trivial⟩) (fun s _ => c0 (dge _)) fun _ => ?_
    · refine (c1 (dlt hl)).trans ?_
      have hgu : (usesL i).getD l 0 = (usesL i)[l] := getD_at (List.getElem?_eq_getElem hl)
      rw [hgu]
      refine (jn_to (b := upd Z (usesL i)[l] po r) ?_).trans rfl
      rw [idx_get hl, Option.bind_some, with_eq, Option.bind_some]
      unfold upd
      cases ((usesL i)[l] == (r : Int)) <;> rfl
    · dsimp only [Lp.thn]
      refine (jn_to (b := insX i po Y r) ?_).trans rfl
      rw [Option.bind_some, rDef_eq, Option.bind_some, with_eq, Option.bind_some]
      unfold insX usX
      cases hdd : (defL i == (r : Int)) with
      | false =>
        rw [cond_false]
        cases (defL i != (-1)) with
        | false => rfl
        | true => rw [cond_true]; unfold upd; rw [hdd]; rfl
      | true =>
        have : (defL i != (-1)) = true := by
          have : defL i = (r : Int) := by simpa using hdd
          rw [this]
          simp only [bne_iff_ne, ne_eq]
          omega
        rw [this, cond_true, cond_true]
        unfold upd
        rw [hdd]
        rfl
  · dsimp only [Lp.thn]
    refine (jn_to (b := (blkF b (row inn k) (row out k) (X, pos)).1 r) ?_).trans rfl
    rw [hi1, Option.bind_some, with_eq, Option.bind_some]
    unfold blkF rowX blkX
    dsimp only
    cases bit (row out k) r <;> rfl

theorem AllocRanges_law (m : GModule) (n : Int) (hw : WfM m) : law24_AllocRanges m n = some true := by
  unfold law24_AllocRanges
  obtain ⟨f, hf, hP⟩ := few_right m n hw
  rw [hf, Option.bind_some, awake_eq]
  cases f with
  | false => rfl
  | true =>
    obtain ⟨p, hp, hR⟩ := hP rfl
    rw [Bool.not_true, cond_false, hp, Option.bind_some]
    obtain ⟨⟨inn, out⟩, hL, hD⟩ := Live_t p hR
    have hrg := ranges_eq p hR inn out hL hD
    have hpr := hR.prc
    have h40 := hR.regs
    have hg0 : 0 ≤ p.Regs := by obtain ⟨a, b, _⟩ := hpr; omega
    refine run_bind (fun k => (k : Int) - 1) (p.Regs.toNat + 2) (.brk (p.Regs + 1)) rfl (by omega) (fun k hk => ?_) ?_ trivial rfl
    · refine (c1 (dt (by omega))).trans ?_
      have hw' : IntKind.wrap .i64 ((k : Int) - 1 + 1) = ((k + 1 : Nat) : Int) - 1 := by rw [w64 (by omega)]; omega
      rw [hw']
      unfold alloc_Range
      by_cases h0 : (k : Int) - 1 < 0
      · rw [c1 (dt h0), Option.bind_some]
        refine (jn_to (b := (⟨0, 0, 0, false⟩ : ref24Reach)) (c0 (df (by omega)))).trans rfl
      · rw [c0 (df h0)]
        by_cases h1 : p.Regs ≤ (k : Int) - 1
        · rw [c1 (dt h1), Option.bind_some]
          refine (jn_to (b := (⟨0, 0, 0, false⟩ : ref24Reach)) ((c1 (dt (by omega))).trans (c0 (df (by omega))))).trans rfl
        · obtain ⟨r, hr⟩ : ∃ r : Nat, (k : Int) - 1 = (r : Int) := ⟨k - 1, by omega⟩
          rw [hr, c0 (df (by omega)), hrg, Option.bind_some, repL_idx (by omega), Option.bind_some, Option.bind_some]
          rw [show ((r : Int)).toNat = r by omega]
          refine (jn_to (b := (allX p inn out).1 r) ?_).trans ?_
          · rw [c1 (dt (by omega)), c1 (dt (by omega)), rRange_eq p hR inn out hD r (by omega), Option.bind_some]
          · generalize (allX p inn out).1 r = x
            unfold cvR
            simp
    · refine (c0 (df (by omega))).trans ?_
      congr 2
      omega
end Go.Proofs.Yteoihjfnojgnnaa
