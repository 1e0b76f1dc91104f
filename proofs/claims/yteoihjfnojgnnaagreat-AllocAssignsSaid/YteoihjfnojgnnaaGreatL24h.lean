/- Plain laws on the models of ranges: there are some, one for each register. No program is in sight here. -/
import Derived.Test.YteoihjfnojgnnaaGreatL24e
set_option linter.unusedVariables false
namespace Go.Proofs.YteoihjfnojgnnaaGreat

theorem awake_eq : law24_awake = some true := by decide +kernel
structure RX where
  R : Int
  From : Int
  To : Int
  Is : Bool
def wt (x : RX) (n : Int) : RX := bif !x.Is then ⟨x.R, n, n, true⟩ else ⟨x.R, min x.From n, max x.To n, true⟩
def cvX (x : RX) : AllocReach := ⟨x.R, x.From, x.To, x.Is⟩
theorem at_eq (x : RX) (n : Int) : alloc_reach_at (cvX x) n = some (cvX (wt x n)) := by
  unfold alloc_reach_at wt cvX
  obtain ⟨a, b, c, d⟩ := x
  cases d <;> rfl
def repL (R : Nat) (X : Nat → RX) : List AllocReach := (List.range R).map (fun q => cvX (X q))
theorem repL_len (R : Nat) (X : Nat → RX) : (repL R X).length = R := by simp [repL]
theorem repL_get {R : Nat} {X : Nat → RX} {q : Nat} (h : q < R) : (repL R X)[q]? = some (cvX (X q)) := by simp [repL, h]
theorem repL_idx {R : Nat} {X : Nat → RX} {u : Int} (h : 0 ≤ u ∧ u < R) : idx (repL R X) u = some (cvX (X u.toNat)) := by
  rw [idx_nat h.1]
  exact repL_get (by omega)
theorem repL_ext {R : Nat} {X Y : Nat → RX} (h : ∀ q, q < R → X q = Y q) : repL R X = repL R Y := by
  unfold repL
  apply List.map_congr_left
  intro q hq
  rw [h q (by simpa using hq)]
theorem repL_set {R : Nat} {X : Nat → RX} {u : Nat} {y : RX} (h : u < R) : (repL R X).set u (cvX y) = repL R (fun q => if q = u then y else X q) := by
  apply List.ext_getElem?
  intro j
  by_cases hj : j < R
  · rw [repL_get hj]
    by_cases hju : j = u
    · subst hju
      rw [List.getElem?_set_self (by rw [repL_len]; exact h), if_pos rfl]
    · rw [List.getElem?_set_ne (fun e => hju e.symm), repL_get hj, if_neg hju]
  · rw [List.getElem?_eq_none (by rw [List.length_set, repL_len]; omega), List.getElem?_eq_none (by rw [repL_len]; omega)]
def upd (X : Nat → RX) (u : Int) (n : Int) : Nat → RX := fun q => bif u == (q : Int) then wt (X q) n else X q
theorem repL_upd {R : Nat} {X : Nat → RX} {u n : Int} (h : 0 ≤ u ∧ u < R) : (repL R X).set u.toNat (cvX (wt (X u.toNat) n)) = repL R (upd X u n) := by
  rw [repL_set (by omega)]
  refine repL_ext fun q hq => ?_
  unfold upd
  by_cases he : q = u.toNat
  · rw [if_pos he, c1 (by simp; omega), he]
  · rw [if_neg he, c0 (by simp; omega)]
def rowX (X : Nat → RX) (l : List Bool) (n : Int) : Nat → RX := fun q => bif bit l q then wt (X q) n else X q
theorem row_loop {A : Type} {K : List AllocReach × Int → Option A} {g : Unit → Option A} {Y : Option A} {R : Nat} {X : Nat → RX} {l : List Bool} {pos : Int} {body : List AllocReach × Int → Option (Lp (List AllocReach × Int) Unit)} (hl : l.length = R) (hR : R ≤ 40) (hX : K (repL R (rowX X l pos), (l.length : Int)) = Y)
    (hs : ∀ (k : Nat) (h : k < l.length) (y : List AllocReach), body (y, (k : Int)) = (jn (fun kk2 => (idx l (k : Int)).bind fun u8 => bif u8 then ((idx y (k : Int)).bind fun u9 => (idx y (k : Int)).bind fun u10 => (alloc_reach_at u10 pos).bind fun y3 => kk2 (List.set y (Int.toNat (k : Int)) y3)) else (kk2 y)) (fun (x9 : List AllocReach) => some (Lp.go (x9, IntKind.wrap .i64 ((k : Int) + 1))))))
    (he : ∀ y, body (y, (l.length : Int)) = some (.brk (y, (l.length : Int)))) : ((loopM body NN (repL R X, 0)).bind fun o => o.thn K g) = Y := by
  refine run_bind (fun k => (repL R (fun q => bif decide (q < k) && bit l q then wt (X q) pos else X q), (k : Int))) l.length (.brk (repL R (rowX X l pos), (l.length : Int))) rfl (by omega) (fun k hk => ?_) ?_ trivial hX
  · rw [hs k hk, bit_at hk]
    refine (jn_to (b := repL R (fun q => bif decide (q < k + 1) && bit l q then wt (X q) pos else X q)) ?_).trans (by rw [w64 (by omega)]; rfl)
    rw [Option.bind_some]
    cases hb : bit l k with
    | true =>
      have hkk : (bif decide (k < k) && bit l k then wt (X k) pos else X k) = X k := c0 (by simp)
      rw [cond_true, repL_idx (by omega), Option.bind_some, Option.bind_some, show ((k : Int)).toNat = k by omega, hkk, at_eq, Option.bind_some, repL_set (by omega)]
      congr 1
      refine repL_ext fun q hq => ?_
      by_cases hqk : q = k
      · subst hqk
        rw [if_pos rfl, c1 (by simp [hb])]
      · rw [if_neg hqk]
        have : decide (q < k + 1) = decide (q < k) := by congr 1; apply propext; omega
        rw [this]
    | false =>
      rw [cond_false]
      congr 1
      refine repL_ext fun q hq => ?_
      by_cases hqk : q = k
      · subst hqk
        rw [hb]
        simp
      · have : decide (q < k + 1) = decide (q < k) := by congr 1; apply propext; omega
        rw [this]
  · have : repL R (fun q => bif decide (q < l.length) && bit l q then wt (X q) pos else X q) = repL R (rowX X l pos) := by
      refine repL_ext fun q hq => ?_
      unfold rowX
      rw [show decide (q < l.length) = true by simp; omega, Bool.true_and]
    rw [this]
    exact he _
def usX (us : List Int) (pos : Int) (X : Nat → RX) : Nat → RX := itr (fun k X => upd X (us.getD k 0) pos) X us.length
def insX (i : Ins) (pos : Int) (X : Nat → RX) : Nat → RX := bif defL i != (-1) then upd (usX (usesL i) pos X) (defL i) (IntKind.wrap .i64 (pos + 1)) else usX (usesL i) pos X
def dI : Ins := ⟨0, 0, 0, 0, 0, 0, 0, 0, 0, [], false⟩
def dB : GBlock := ⟨[], 0, 0, 0, 0⟩
def blkX (b : GBlock) (pos : Int) (X : Nat → RX) : (Nat → RX) × Int := itr (fun k s => (insX (b.Ins.getD k dI) s.2 s.1, IntKind.wrap .i64 (s.2 + 2))) (X, pos) b.Ins.length
def blkF (b : GBlock) (li lo : List Bool) (s : (Nat → RX) × Int) : (Nat → RX) × Int :=
  (rowX (blkX b s.2 (rowX s.1 li s.2)).1 lo (blkX b s.2 (rowX s.1 li s.2)).2, IntKind.wrap .i64 ((blkX b s.2 (rowX s.1 li s.2)).2 + 1))
def X0 (pr : Int) : Nat → RX := fun q => bif decide ((q : Int) < pr) then wt ⟨q, 0, 0, false⟩ 0 else ⟨q, 0, 0, false⟩
def allX (p : Proc) (inn out : List (List Bool)) : (Nat → RX) × Int := itr (fun k s => blkF (p.Blocks.getD k dB) (row inn k) (row out k) s) (X0 p.Params, 0) p.Blocks.length
theorem getD_at {α : Type} {l : List α} {k : Nat} {d x : α} (h : l[k]? = some x) : l.getD k d = x := by rw [List.getD_eq_getElem?_getD, h]; rfl

theorem ranges_eq (p : Proc) (hp : Rgt p) (inn out : List (List Bool)) (hL : flow_Live p = some (inn, out)) (hD : LvD p p.Regs.toNat inn out) : alloc_ranges p = some (repL p.Regs.toNat (allX p inn out).1) := by
  obtain ⟨⟨hf1, hf2, hf3⟩, ⟨hq0, hq1, hq2⟩, hrg, hbk⟩ := hp
  have hrep : repl (max p.Regs 0) (⟨0, 0, 0, false⟩ : AllocReach) = some (repL p.Regs.toNat (fun _ => ⟨0, 0, 0, false⟩)) := by
    unfold repl
    rw [if_pos (by omega), show max p.Regs 0 = p.Regs by omega]
    congr 1
    apply List.ext_getElem?
    intro j
    rw [List.getElem?_replicate]
    by_cases h : j < p.Regs.toNat
    · rw [if_pos h, repL_get h]; rfl
    · rw [if_neg h, List.getElem?_eq_none (by rw [repL_len]; omega)]
  unfold alloc_ranges
  rw [hrep, Option.bind_some, repL_len]
  have hRR : (p.Regs.toNat : Int) = p.Regs := by omega
  have hregs : ∀ b ∈ p.Blocks, ∀ i ∈ b.Ins, InsP p.Regs.toNat i := by rw [hRR]; exact fun b hb => (hq2 b hb).1
  obtain ⟨D1, D2, D3, D4, _, _⟩ := hD
  have hR40 : p.Regs.toNat ≤ 40 := by omega
  generalize p.Regs.toNat = R at *
  refine run_bind (fun k => (repL R (fun q => bif decide (q < k) then X0 p.Params q else ⟨0, 0, 0, false⟩), (k : Int))) R (.brk (repL R (X0 p.Params), (R : Int))) rfl (by omega) (fun k hk => ?_) ?_ trivial ?_
  · refine (c1 (dlt hk)).trans ?_
    have hkk : (bif decide (k < k) then X0 p.Params k else (⟨0, 0, 0, false⟩ : RX)) = ⟨0, 0, 0, false⟩ := c0 (by simp)
    refine (jn_to (b := repL R (fun q => bif decide (q < k + 1) then X0 p.Params q else ⟨0, 0, 0, false⟩)) ?_).trans (by rw [w64 (by omega)]; rfl)
    have hgo : ∀ y, (repL R (fun q => bif decide (q < k) then X0 p.Params q else (⟨0, 0, 0, false⟩ : RX))).set k (cvX y) = repL R (fun q => if q = k then y else bif decide (q < k) then X0 p.Params q else ⟨0, 0, 0, false⟩) := fun y => repL_set hk
    have hfin : ∀ y, y = X0 p.Params k → repL R (fun q => if q = k then y else bif decide (q < k) then X0 p.Params q else (⟨0, 0, 0, false⟩ : RX)) = repL R (fun q => bif decide (q < k + 1) then X0 p.Params q else ⟨0, 0, 0, false⟩) := by
      rintro _ rfl
      refine repL_ext fun q hq => ?_
      by_cases hqk : q = k
      · subst hqk
        rw [if_pos rfl, c1 (by simp)]
      · rw [if_neg hqk]
        have : decide (q < k + 1) = decide (q < k) := by congr 1; apply propext; omega
        rw [this]
    rw [repL_idx (by omega), Option.bind_some, Option.bind_some, show ((k : Int)).toNat = k by omega, hkk]
    have e1 : ({ cvX (⟨0, 0, 0, false⟩ : RX) with r := (k : Int) } : AllocReach) = cvX ⟨k, 0, 0, false⟩ := rfl
    rw [e1]
    by_cases hpar : (k : Int) < p.Params
    · rw [c1 (dt hpar), hgo, repL_idx (by omega), Option.bind_some, Option.bind_some, show ((k : Int)).toNat = k by omega, if_pos rfl, at_eq, Option.bind_some, repL_set hk]
      congr 1
      rw [← hfin (wt ⟨k, 0, 0, false⟩ 0) (by unfold X0; rw [c1 (dt hpar)])]
      refine repL_ext fun q hq => ?_
      by_cases hqk : q = k
      · rw [if_pos hqk, if_pos hqk]
      · rw [if_neg hqk, if_neg hqk, if_neg hqk]
    · rw [c0 (df hpar), hgo]
      congr 1
      exact hfin _ (by unfold X0; rw [c0 (df hpar)])
  · have : repL R (fun q => bif decide (q < R) then X0 p.Params q else (⟨0, 0, 0, false⟩ : RX)) = repL R (X0 p.Params) := repL_ext fun q hq => c1 (by simpa using hq)
    rw [this]
    exact c0 (dge _)
  show (flow_Live p).bind _ = _
  rw [hL, Option.bind_some]
  refine itr_bind p.Blocks.length (fun k s => blkF (p.Blocks.getD k dB) (row inn k) (row out k) s) (fun s k => (repL R s.1, s.2, k)) (X0 p.Params, 0) (fun _ _ => True) rfl trivial (by omega) (fun k hk s _ => ⟨?_, trivial⟩) (fun s _ => c0 (dge _)) fun _ => rfl
  obtain ⟨X, pos⟩ := s
  refine (c1 (dlt hk)).trans ?_
  obtain ⟨b, hb, hbm⟩ := lv_some hk
  have hgd : p.Blocks.getD k dB = b := getD_at hb
  obtain ⟨hbl, hba⟩ := hf3 b hbm
  have hins := hregs b hbm
  rw [hgd, idx_nat (by omega), show ((k : Int)).toNat = k by omega, hb, Option.bind_some]
  dsimp only
  rw [row_at (show k < inn.length by omega), Option.bind_some]
  have hri := D4 k hk
  have hro := D3 k hk
  refine row_loop (R := R) (X := X) (l := row inn k) (pos := pos) hri hR40 ?_ (fun j hj y => c1 (dlt hj)) (fun y => c0 (dge _))
  dsimp only
  refine itr_bind b.Ins.length (fun k s => (insX (b.Ins.getD k dI) s.2 s.1, IntKind.wrap .i64 (s.2 + 2))) (fun s k => (repL R s.1, s.2, k)) (rowX X (row inn k) pos, pos) (fun _ _ => True) rfl trivial (by omega) (fun j hj s _ => ⟨?_, trivial⟩) (fun s _ => c0 (dge _)) fun _ => ?_
  · obtain ⟨Y, po⟩ := s
    refine (c1 (dlt hj)).trans ?_
    have hi : b.Ins[j]? = some b.Ins[j] := List.getElem?_eq_getElem hj
    have him : b.Ins[j] ∈ b.Ins := List.getElem_mem hj
    rw [idx_get hj, Option.bind_some]
    generalize b.Ins[j] = i at hi him
    rw [getD_at hi]
    obtain ⟨hu, hd⟩ := hins i him
    rw [Uses_eq i (hba i him), Option.bind_some]
    have hul := usesL_len i (hba i him)
    refine itr_bind (usesL i).length (fun k X => upd X ((usesL i).getD k 0) po) (fun X k => (repL R X, k)) Y (fun _ _ => True) rfl trivial (by omega) (fun l hl Z _ => ⟨?_, trivial⟩) (fun s _ => c0 (dge _)) fun _ => ?_
    · refine (c1 (dlt hl)).trans ?_
      have hum := hu _ (List.getElem_mem hl)
      have hgu : (usesL i).getD l 0 = (usesL i)[l] := getD_at (List.getElem?_eq_getElem hl)
      rw [idx_get hl, Option.bind_some, repL_idx hum, Option.bind_some, Option.bind_some, at_eq, Option.bind_some, repL_upd hum, hgu]
    · dsimp only [Lp.thn]
      refine (jn_to (b := repL R (insX i po Y)) ?_).trans rfl
      rw [Def_eq, Option.bind_some]
      unfold insX usX
      cases hdd : (defL i != (-1)) with
      | false => rfl
      | true =>
        have hd' : InR R (defL i) := by
          rcases hd with hd | hd
          · rw [hd] at hdd; cases hdd
          · exact hd
        rw [cond_true, cond_true, repL_idx hd', Option.bind_some, Option.bind_some, at_eq, Option.bind_some, repL_upd hd']
  · dsimp only [Lp.thn]
    rw [row_at (show k < out.length by omega), Option.bind_some]
    refine row_loop (R := R) (l := row out k) hro hR40 ?_ (fun j hj y => c1 (dlt hj)) (fun y => c0 (dge _))
    rfl


theorem itr_inv {S : Type} (f : Nat → S → S) (s0 : S) (I : S → Prop) (h0 : I s0) (hs : ∀ k s, I s → I (f k s)) : ∀ n, I (itr f s0 n)
  | 0 => h0
  | n + 1 => hs n _ (itr_inv f s0 I h0 hs n)
def RegX (X : Nat → RX) : Prop := ∀ q : Nat, (X q).R = (q : Int)
theorem wt_R (x : RX) (n : Int) : (wt x n).R = x.R := by unfold wt; cases x.Is <;> rfl
theorem upd_R {X : Nat → RX} (h : RegX X) (u n : Int) : RegX (upd X u n) := by
  intro q
  unfold upd
  cases (u == (q : Int))
  · exact h q
  · exact (wt_R _ _).trans (h q)
theorem row_R {X : Nat → RX} (h : RegX X) (l : List Bool) (n : Int) : RegX (rowX X l n) := by
  intro q
  unfold rowX
  cases (bit l q)
  · exact h q
  · exact (wt_R _ _).trans (h q)
theorem ins_R {X : Nat → RX} (h : RegX X) (i : Ins) (n : Int) : RegX (insX i n X) := by
  have hu : RegX (usX (usesL i) n X) := itr_inv _ _ RegX h (fun k s hs => upd_R hs _ _) _
  unfold insX
  cases (defL i != (-1))
  · exact hu
  · exact upd_R hu _ _
theorem allX_R (p : Proc) (inn out : List (List Bool)) : RegX (allX p inn out).1 := by
  refine itr_inv _ _ (fun (s : (Nat → RX) × Int) => RegX s.1) ?_ (fun k s hs => ?_) _
  · intro q
    show (X0 p.Params q).R = _
    unfold X0
    cases decide ((q : Int) < p.Params)
    · rfl
    · exact wt_R ⟨q, 0, 0, false⟩ 0
  · unfold blkF
    refine row_R ?_ _ _
    exact itr_inv _ _ (fun (s : (Nat → RX) × Int) => RegX s.1) (row_R hs _ _) (fun k s hs => ins_R hs _ _) _
end Go.Proofs.YteoihjfnojgnnaaGreat
