/- Plain laws of layer 33 (power): what the models of its functions compute. No program is in sight here. -/
import Derived.Test.YthieojijnjdfgaaM
import Derived.Test.YthieojijnjdfgaaLoop
set_option linter.unusedVariables false
namespace Go.Proofs.Ythieojijnjdfgaa

/-- A tick. -/
def tickS (p : PowerPlant) (n : Int) : PowerPlant :=
  let k := min (p.kept + n) p.Supply.Room
  if p.on = true ∨ p.Supply.On ≤ k then ⟨p.Supply, k - 1, decide (0 < k - 1), p.done + 1, if p.on = false ∧ 0 < p.done then p.fails ++ [p.done] else p.fails⟩
  else { p with kept := k }
def okN (n : Int) : Prop := 0 ≤ n ∧ n ≤ 1048576
instance (n : Int) : Decidable (okN n) := by unfold okN; infer_instance
structure IP (s : PowerSupply) (k : Nat) (p : PowerPlant) : Prop where
  sup : p.Supply = s
  kept : 0 ≤ p.kept ∧ p.kept ≤ 1048576
  on : p.on = true → 1 ≤ p.kept
  done : 0 ≤ p.done ∧ p.done ≤ k
  len : p.fails.length ≤ k
structure OkS (s : PowerSupply) : Prop where
  ticks : ∀ n ∈ s.Ticks, okN n
  len : 1 ≤ s.Ticks.length ∧ s.Ticks.length ≤ 4096
  on : 1 ≤ s.On ∧ s.On ≤ s.Room ∧ s.Room ≤ 1048576
theorem tick_inv {s : PowerSupply} (h : OkS s) {k : Nat} {p : PowerPlant} (hp : IP s k p) {n : Int} (hn : okN n) : IP s (k + 1) (tickS p n) := by
  obtain ⟨h1, h2, h3, h4, h5⟩ := hp
  have ho := h.on
  unfold okN at hn
  unfold tickS
  rw [h1]
  dsimp only
  split
  · rename_i hc
    refine ⟨rfl, ?_, fun hk => ?_, ?_, ?_⟩
    · dsimp only
      rcases hc with hc | hc
      · have := h3 hc; omega
      · omega
    · have := of_decide_eq_true hk; dsimp only; omega
    · dsimp only; omega
    · dsimp only
      split
      · simp; omega
      · omega
  · rename_i hc
    exact ⟨rfl, by dsimp only; omega, fun hk => absurd (.inl hk) hc, by dsimp only; omega, by dsimp only; omega⟩
theorem tick_eq {s : PowerSupply} (h : OkS s) {k : Nat} (hk : k ≤ 5000000) {p : PowerPlant} (hp : IP s k p) {n : Int} (hn : okN n) : power_plant_tick p n = some (tickS p n) := by
  obtain ⟨h1, h2, h3, h4, h5⟩ := hp
  have ho := h.on
  unfold okN at hn
  obtain ⟨sup, kept, on, done, fails⟩ := p
  dsimp only at h1 h2 h3 h4 h5
  subst h1
  unfold power_plant_tick tickS jn
  dsimp only
  rw [w64 (x := kept + n) (by omega)]
  cases on with
  | true =>
    have := h3 rfl
    simp only [Bool.not_true, cond_false, true_or, if_true]
    rw [w64 (x := min (kept + n) sup.Room - 1) (by omega), w64 (x := done + 1) (by omega)]
    simp
  | false =>
    simp only [Bool.not_false, cond_true, Bool.false_eq_true, false_or]
    by_cases hc : sup.On ≤ min (kept + n) sup.Room
    · rw [c1 (dt hc), if_pos hc]
      by_cases hd : 0 < done
      · rw [c1 (dt hd), room_ok (by simp; omega), Option.bind_some]
        simp only [Bool.not_true, cond_false]
        rw [w64 (x := min (kept + n) sup.Room - 1) (by omega), w64 (x := done + 1) (by omega)]
        simp [hd]
      · rw [c0 (df hd)]
        simp only [Bool.not_true, cond_false]
        rw [w64 (x := min (kept + n) sup.Room - 1) (by omega), w64 (x := done + 1) (by omega)]
        simp [hd]
    · rw [c0 (df hc), if_neg hc]
/-- What has come of a supply behind so many ticks. -/
def tk (s : PowerSupply) (k : Nat) : Int := s.Ticks.getD (k % s.Ticks.length) 0
def stS (s : PowerSupply) : Nat → PowerPlant
  | 0 => ⟨s, 0, false, 0, []⟩
  | k + 1 => tickS (stS s k) (tk s k)
theorem tk_ok {s : PowerSupply} (h : OkS s) (k : Nat) : okN (tk s k) ∧ idx s.Ticks (Int.tmod (k : Int) (s.Ticks.length : Int)) = some (tk s k) := by
  have hl := h.len.1
  have hlt : k % s.Ticks.length < s.Ticks.length := Nat.mod_lt _ hl
  have he : Int.tmod (k : Int) (s.Ticks.length : Int) = ((k % s.Ticks.length : Nat) : Int) := by rw [Int.tmod_eq_emod_of_nonneg (by omega)]; omega
  unfold tk
  rw [he, idx_get hlt, List.getD_eq_getElem?_getD, List.getElem?_eq_getElem hlt]
  exact ⟨h.ticks _ (List.getElem_mem hlt), rfl⟩
theorem st_inv {s : PowerSupply} (h : OkS s) : ∀ k, IP s k (stS s k)
  | 0 => ⟨rfl, (by simp [stS]), (fun hk => by cases hk), (by simp [stS]), (by simp [stS])⟩
  | k + 1 => tick_inv h (st_inv h k) (tk_ok h k).1
def times (t : Int) : Nat := (min (max t 0) 4000000).toNat
theorem Right_eq (s : PowerSupply) (hl : s.Ticks.length ≤ 9223372036854775807) : ∃ b, power_Right s = some b ∧ (b = true → OkS s) ∧ (b = false → ¬ OkS s) := by
  unfold power_Right
  by_cases h1 : (1 : Int) ≤ (s.Ticks.length : Int)
  · rw [c1 (dt h1)]
    by_cases h2 : (s.Ticks.length : Int) ≤ 4096
    · rw [c1 (dt h2)]
      have hc : slices_ContainsFunc s.Ticks = some (s.Ticks.any fun n => decide (n < 0) || decide (1048576 < n)) := by
        unfold slices_ContainsFunc slices_IndexFunc
        have : ((loopM (fun (x1 : Int) => (bif decide (x1 < (List.length s.Ticks : Int)) then ((idx s.Ticks x1).bind fun u1 => (power_Right_1 u1).bind fun y1 => bif y1 then (some (Lp.ret x1)) else (some (Lp.go (IntKind.wrap .i64 (x1 + 1))))) else (some (Lp.brk x1)) : Option (Lp (Int) (Int)))) NN 0).bind fun o => o.thn (fun (x1 : Int) => some (-1)) (fun r => some r)) = some (match s.Ticks.findIdx? (fun n => decide (n < 0) || decide (1048576 < n)) with | some k => (k : Int) | none => -1) := by
          refine find_bind s.Ticks _ (fun k => (k : Int)) (by omega) (fun k hk => ?_) (by rw [c0 (dge _)]) (by cases s.Ticks.findIdx? _ <;> rfl)
          rw [c1 (dlt hk), idx_get hk, Option.bind_some, show power_Right_1 s.Ticks[k] = some (decide (s.Ticks[k] < 0) || decide (1048576 < s.Ticks[k])) by unfold power_Right_1; cases decide (s.Ticks[k] < 0) <;> rfl, Option.bind_some]
          cases (decide (s.Ticks[k] < 0) || decide (1048576 < s.Ticks[k])) <;> rfl
        rw [this, Option.bind_some, ← List.findIdx?_isSome]
        cases s.Ticks.findIdx? _ with
        | none => rfl
        | some k => simp
      rw [hc, Option.bind_some]
      cases ha : s.Ticks.any fun n => decide (n < 0) || decide (1048576 < n) with
      | true =>
        refine ⟨false, rfl, by simp, fun _ h => ?_⟩
        obtain ⟨n, hn, hx⟩ := List.any_eq_true.1 ha
        have := h.ticks n hn
        unfold okN at this
        simp at hx
        omega
      | false =>
        have hall : ∀ n ∈ s.Ticks, okN n := fun n hn => by
          have := List.any_eq_false.1 ha n hn
          simp at this
          exact ⟨by omega, by omega⟩
        rw [Bool.not_false, cond_true]
        by_cases h3 : 1 ≤ s.On
        · rw [c1 (dt h3)]
          by_cases h4 : s.On ≤ s.Room
          · rw [c1 (dt h4)]
            by_cases h5 : s.Room ≤ 1048576
            · exact ⟨true, by rw [dt h5], fun _ => ⟨hall, by omega, h3, h4, h5⟩, by simp⟩
            · exact ⟨false, by rw [df h5], by simp, fun _ h => h5 h.on.2.2⟩
          · rw [c0 (df h4)]; exact ⟨false, rfl, by simp, fun _ h => h4 h.on.2.1⟩
        · rw [c0 (df h3)]; exact ⟨false, rfl, by simp, fun _ h => h3 h.on.1⟩
    · rw [c0 (df h2)]; exact ⟨false, rfl, by simp, fun _ h => h2 (by have := h.len.2; omega)⟩
  · rw [c0 (df h1)]; exact ⟨false, rfl, by simp, fun _ h => h1 (by have := h.len.1; omega)⟩
theorem Fails_eq (s : PowerSupply) (t : Int) (hl : s.Ticks.length ≤ 9223372036854775807) : (¬ OkS s ∧ power_Right s = some false ∧ power_Fails s t = some ([], 0, 1)) ∨ (OkS s ∧ power_Right s = some true ∧ power_Fails s t = some ((stS s (times t)).fails, (stS s (times t)).done, 0)) := by
  obtain ⟨b, hb, h1, h2⟩ := Right_eq s hl
  unfold power_Fails
  rw [hb, Option.bind_some]
  cases b with
  | false => exact .inl ⟨h2 rfl, rfl, rfl⟩
  | true =>
    have h := h1 rfl
    refine .inr ⟨h, rfl, ?_⟩
    rw [Bool.not_true, cond_false]
    unfold power_coming
    rw [Option.bind_some]
    unfold power_coming_1
    have hn : times t ≤ 4000000 := by unfold times; omega
    have ht : min (max t 0) 4000000 = (times t : Int) := by unfold times; omega
    dsimp only
    rw [ht]
    have hrun : ∀ {A : Type} {K : Lp (PowerPlant × Int) (Lp PowerPlant Unit) → Option A} {X : Option A}, K (.brk (stS s (times t), (times t : Int))) = X → ((loopM (fun (x1, x2) => (bif decide (x2 < (times t : Int)) then ((nz (List.length s.Ticks : Int)).bind fun _ => (idx s.Ticks (Int.tmod x2 (List.length s.Ticks : Int))).bind fun u1 => ((power_plant_tick x1 u1).bind fun y3 => (some (Lp.go y3) : Option (Lp PowerPlant Unit))).bind fun z1 => Lp.gone z1 (fun s1 => some (Lp.go (s1, IntKind.wrap .i64 (x2 + 1)))) (some (Lp.ret z1))) else (some (Lp.brk (x1, x2))) : Option (Lp (PowerPlant × Int) (Lp PowerPlant Unit)))) NN ((⟨s, 0, false, 0, []⟩ : PowerPlant), 0)).bind K) = X := by
      intro A K X hX
      refine run_bind (fun k => (stS s k, (k : Int))) (times t) (.brk (stS s (times t), (times t : Int))) rfl (by omega) (fun k hk => ?_) ?_ trivial hX
      · dsimp only
        rw [c1 (dlt hk), show nz (s.Ticks.length : Int) = some () by unfold nz; rw [if_neg (by have := h.len.1; omega)], Option.bind_some, (tk_ok h k).2, Option.bind_some, tick_eq h (by omega) (st_inv h k) (tk_ok h k).1, Option.bind_some, Option.bind_some, w64 (by omega)]
        rfl
      · dsimp only
        rw [c0 (dge _)]
    rw [hrun (K := fun o => o.thn (fun (x1, x2) => some (Lp.go x1)) (fun r => some r)) rfl]
    rfl
theorem awake_eq : law33_awake = some true := by kernel_rfl

/-! ## How far failures are apart -/
def lst (l : List Int) : Int := l.foldl (fun _ x => x) 0
theorem lst_snoc (l : List Int) (x : Int) : lst (l ++ [x]) = x := by simp [lst]
theorem lst_take (l : List Int) (k : Nat) (h : k < l.length) : lst (l.take (k + 1)) = l[k] := by
  rw [List.take_succ_eq_append_getElem h, lst_snoc]
def chk (o : Int) (l : List Int) : Prop := ∀ k (h : k < l.length), o ≤ l[k] - lst (l.take k)
theorem chk_snoc {o : Int} {l : List Int} {x : Int} (h : chk o l) (hx : lst l + o ≤ x) : chk o (l ++ [x]) := by
  intro k hk
  simp only [List.length_append, List.length_cons, List.length_nil] at hk
  rcases Nat.lt_or_ge k l.length with hlt | hge
  · rw [List.getElem_append_left hlt, List.take_append_of_le_length (by omega)]; exact h k hlt
  · obtain rfl : k = l.length := by omega
    rw [List.getElem_append_right (by omega), List.take_append_of_le_length (by omega), List.take_length]
    simp; omega
structure Ap (s : PowerSupply) (p : PowerPlant) : Prop where
  kr : p.kept ≤ s.Room
  ch : chk s.On p.fails
  on : p.on = true → lst p.fails + s.On ≤ p.done + p.kept
  off : p.on = false → (p.done = 0 ∧ p.fails = []) ∨ lst p.fails + s.On ≤ p.done
  le : lst p.fails ≤ p.done
  bnd : ∀ x ∈ p.fails, 0 ≤ x ∧ x ≤ p.done
theorem tick_ap {s : PowerSupply} (h : OkS s) {k : Nat} {p : PowerPlant} (hp : IP s k p) (ha : Ap s p) {n : Int} (hn : okN n) : Ap s (tickS p n) := by
  obtain ⟨h1, h2, h3, h4, h5⟩ := hp
  obtain ⟨a1, a2, a3, a4, a5, a6⟩ := ha
  have ho := h.on
  unfold okN at hn
  obtain ⟨sup, kept, on, done, fails⟩ := p
  dsimp only at h1 h2 h3 h4 h5 a1 a2 a3 a4 a5 a6
  subst h1
  unfold tickS
  dsimp only
  cases on with
  | true =>
    have b1 := h3 rfl
    have b2 := a3 rfl
    rw [if_pos (.inl rfl), if_neg (by simp)]
    refine ⟨by dsimp only; omega, a2, fun _ => by dsimp only; omega, fun hk => .inr ?_, by dsimp only; omega, fun x hx => ?_⟩
    · have := of_decide_eq_false hk
      dsimp only; omega
    · have := a6 x hx
      dsimp only; omega
  | false =>
    by_cases hc : sup.On ≤ min (kept + n) sup.Room
    · rw [if_pos (.inr hc)]
      by_cases hd : 0 < done
      · rw [if_pos ⟨rfl, hd⟩]
        have b1 : lst fails + sup.On ≤ done := by rcases a4 rfl with h | h; omega; exact h
        refine ⟨by dsimp only; omega, chk_snoc a2 b1, fun _ => by dsimp only; rw [lst_snoc]; omega, fun hk => .inr ?_, by dsimp only; rw [lst_snoc]; omega, fun x hx => ?_⟩
        · have := of_decide_eq_false hk
          dsimp only; rw [lst_snoc]; omega
        · rcases List.mem_append.1 hx with hx | hx
          · have := a6 x hx; dsimp only; omega
          · simp at hx; subst hx; dsimp only; omega
      · rw [if_neg (fun h => hd h.2)]
        have b0 : done = 0 := by omega
        have b1 : fails = [] := by
          rcases a4 rfl with h | h
          · exact h.2
          · cases hf : fails with
            | nil => rfl
            | cons x l =>
              exfalso
              have hc0 := a2 0 (by rw [hf]; simp)
              have hx := a6 x (by rw [hf]; simp)
              simp [hf, lst] at hc0
              omega
        subst b1
        have b2 : lst [] = 0 := rfl
        refine ⟨by dsimp only; omega, a2, fun _ => by dsimp only; omega, fun hk => .inr ?_, by dsimp only; omega, fun x hx => by cases hx⟩
        have := of_decide_eq_false hk
        dsimp only; omega
    · rw [if_neg (by simp [hc])]
      exact ⟨by dsimp only; omega, a2, fun hk => (by cases hk), fun _ => a4 rfl, a5, a6⟩
theorem st_ap {s : PowerSupply} (h : OkS s) : ∀ k, Ap s (stS s k)
  | 0 => ⟨(by have := h.on; show (0 : Int) ≤ s.Room; omega), (fun k hk => by simp [stS] at hk), (fun hk => by cases hk), (fun _ => .inl ⟨rfl, rfl⟩), (by simp [stS, lst]), (fun x hx => by cases hx)⟩
  | k + 1 => tick_ap h (st_inv h k) (st_ap h k) (tk_ok h k).1

theorem PowerApart_law (s : PowerSupply) (t : Int) (hl : s.Ticks.length ≤ 9223372036854775807) : law33_PowerApart s t = some true := by
  unfold law33_PowerApart
  by_cases h0 : (300 : Int) < (s.Ticks.length : Int)
  · rw [c1 (dt h0), awake_eq]; rfl
  rw [c0 (df h0)]
  by_cases h1 : 20000 < t
  · rw [c1 (dt h1), awake_eq]; rfl
  rw [c0 (df h1)]
  rcases Fails_eq s t hl with ⟨_, _, h⟩ | ⟨hk, _, h⟩
  · rw [h, Option.bind_some, c1 (by rfl), awake_eq]; rfl
  have hI := st_inv hk (times t)
  have hA := st_ap hk (times t)
  have hn : times t ≤ 4000000 := by unfold times; omega
  rw [h, Option.bind_some, c0 (by rfl)]
  generalize stS s (times t) = p at hI hA ⊢
  dsimp only
  have hlen := hI.len
  have hdn := hI.done
  refine run_bind (fun k => (lst (p.fails.take k), (k : Int))) p.fails.length (.brk (lst p.fails, (p.fails.length : Int))) rfl (by omega) (fun k hk2 => ?_) ?_ trivial ?_
  · have hc := hA.ch k hk2
    have hb := hA.bnd _ (List.getElem_mem hk2)
    have hlb : 0 ≤ lst (p.fails.take k) := by
      cases k with
      | zero => simp [lst]
      | succ j => rw [lst_take p.fails j (by omega)]; exact (hA.bnd _ (List.getElem_mem _)).1
    have hon := hk.on
    dsimp only
    rw [c1 (dlt hk2)]
    simp only [idx_get hk2, Option.bind_some]
    rw [w64 (x := p.fails[k] - lst (p.fails.take k)) (by omega), c0 (df (by omega)), lst_take p.fails k hk2, w64 (by omega)]
    rfl
  · dsimp only
    rw [c0 (dge _), List.take_length]
  · dsimp only [Lp.thn]
    rw [awake_eq, Option.bind_some, cond_true, dt hA.le]

/-! ## The reference -/
theorem mn_bif {α : Type} (v r : Int) (K : Int → α) : (bif decide (r < v) then K r else K v) = K (min v r) := by
  by_cases h : r < v
  · rw [c1 (dt h), show min v r = r by omega]
  · rw [c0 (df h), show min v r = v by omega]
theorem Go_eq {s : PowerSupply} (h : OkS s) (t : Int) (ht : t ≤ 20000) : ref33_Go s.Ticks s.Room s.On t = some ⟨(stS s (times t)).fails, (stS s (times t)).done⟩ := by
  unfold ref33_Go
  have hn : times t ≤ 20000 ∧ (0 ≤ t → (times t : Int) = t) ∧ (t < 0 → times t = 0) := by unfold times; omega
  refine run_bind (fun k => ((stS s k).kept, (stS s k).on, (k : Int), (⟨(stS s k).fails, (stS s k).done⟩ : ref33Run))) (times t) (.brk ((stS s (times t)).kept, (stS s (times t)).on, (times t : Int), ⟨(stS s (times t)).fails, (stS s (times t)).done⟩)) rfl (by omega) (fun k hk => ?_) ?_ trivial rfl
  · have hlt : (k : Int) < t := by omega
    have hI := st_inv h k
    have hT := tk_ok h k
    have ho := h.on
    have hw : IntKind.wrap .i64 ((k : Int) + 1) = ((k + 1 : Nat) : Int) := by rw [w64 (by omega)]; omega
    dsimp only [jn]
    rw [c1 (dt hlt), show nz (s.Ticks.length : Int) = some () by unfold nz; rw [if_neg (by have := h.len.1; omega)], Option.bind_some, hT.2, Option.bind_some]
    rw [show stS s (k + 1) = tickS (stS s k) (tk s k) from rfl]
    have hn1 := hT.1
    unfold okN at hn1
    generalize tk s k = n at hn1 ⊢
    generalize stS s k = p at hI ⊢
    obtain ⟨h1, h2, h3, h4, h5⟩ := hI
    obtain ⟨sup, kept, on, done, fails⟩ := p
    dsimp only at h1 h2 h3 h4 h5 ⊢
    subst h1
    rw [w64 (x := kept + n) (by omega)]
    obtain ⟨m, hm⟩ : ∃ m, m = min (kept + n) sup.Room := ⟨_, rfl⟩
    have hm1 : 0 ≤ m ∧ m ≤ 1048576 := by omega
    have hm2 : on = true → 1 ≤ m := fun ht => by have := h3 ht; omega
    unfold tickS
    dsimp only
    rw [← hm]
    have hor : (sup.Room < kept + n ∧ sup.Room = m) ∨ (¬ sup.Room < kept + n ∧ kept + n = m) := by omega
    rcases hor with ⟨hr, hx⟩ | ⟨hr, hx⟩
    · rw [c1 (dt hr), hx]
      cases on with
      | true =>
        have := hm2 rfl
        simp only [Bool.not_true, cond_false, cond_true, true_or, if_true]
        rw [w64 (x := m - 1) (by omega), w64 (x := done + 1) (by omega)]
        by_cases hz : m - 1 = 0
        · rw [c1 (by simp [hz]), hw, df (by omega)]; simp
        · rw [c0 (by simp [hz]), hw, dt (by omega)]; simp
      | false =>
        simp only [Bool.not_false, cond_true, Bool.false_eq_true, false_or]
        by_cases hc : sup.On ≤ m
        · rw [c1 (dt hc), if_pos hc]
          by_cases hd : 0 < done
          · rw [c1 (dt hd), room_ok (by simp; omega), Option.bind_some]
            simp only [cond_true]
            rw [w64 (x := m - 1) (by omega), w64 (x := done + 1) (by omega)]
            by_cases hz : m - 1 = 0
            · rw [c1 (by simp [hz]), hw, df (by omega)]; simp [hd]
            · rw [c0 (by simp [hz]), hw, dt (by omega)]; simp [hd]
          · rw [c0 (df hd)]
            simp only [cond_true]
            rw [w64 (x := m - 1) (by omega), w64 (x := done + 1) (by omega)]
            by_cases hz : m - 1 = 0
            · rw [c1 (by simp [hz]), hw, df (by omega)]; simp [hd]
            · rw [c0 (by simp [hz]), hw, dt (by omega)]; simp [hd]
        · rw [c0 (df hc), if_neg hc]
          simp only [cond_false]
          by_cases hz : m = 0
          · rw [c1 (by simp [hz]), hw]
          · rw [c0 (by simp [hz]), hw]
    · rw [c0 (df hr), hx]
      cases on with
      | true =>
        have := hm2 rfl
        simp only [Bool.not_true, cond_false, cond_true, true_or, if_true]
        rw [w64 (x := m - 1) (by omega), w64 (x := done + 1) (by omega)]
        by_cases hz : m - 1 = 0
        · rw [c1 (by simp [hz]), hw, df (by omega)]; simp
        · rw [c0 (by simp [hz]), hw, dt (by omega)]; simp
      | false =>
        simp only [Bool.not_false, cond_true, Bool.false_eq_true, false_or]
        by_cases hc : sup.On ≤ m
        · rw [c1 (dt hc), if_pos hc]
          by_cases hd : 0 < done
          · rw [c1 (dt hd), room_ok (by simp; omega), Option.bind_some]
            simp only [cond_true]
            rw [w64 (x := m - 1) (by omega), w64 (x := done + 1) (by omega)]
            by_cases hz : m - 1 = 0
            · rw [c1 (by simp [hz]), hw, df (by omega)]; simp [hd]
            · rw [c0 (by simp [hz]), hw, dt (by omega)]; simp [hd]
          · rw [c0 (df hd)]
            simp only [cond_true]
            rw [w64 (x := m - 1) (by omega), w64 (x := done + 1) (by omega)]
            by_cases hz : m - 1 = 0
            · rw [c1 (by simp [hz]), hw, df (by omega)]; simp [hd]
            · rw [c0 (by simp [hz]), hw, dt (by omega)]; simp [hd]
        · rw [c0 (df hc), if_neg hc]
          simp only [cond_false]
          by_cases hz : m = 0
          · rw [c1 (by simp [hz]), hw]
          · rw [c0 (by simp [hz]), hw]
  · dsimp only
    rw [c0 (df (by omega))]
theorem rRight_eq (s : PowerSupply) (b : Bool) (hl : s.Ticks.length ≤ 5000) (h1 : b = true → OkS s) (h2 : b = false → ¬ OkS s) : ref33_Right s.Ticks s.Room s.On = some b := by
  unfold ref33_Right
  by_cases a1 : (s.Ticks.length : Int) < 1
  · rw [c1 (dt a1)]; cases b; rfl; have := (h1 rfl).len; omega
  rw [c0 (df a1)]
  by_cases a2 : (4096 : Int) < (s.Ticks.length : Int)
  · rw [c1 (dt a2)]; cases b; rfl; have := (h1 rfl).len; omega
  rw [c0 (df a2)]
  by_cases a3 : s.On < 1
  · rw [c1 (dt a3)]; cases b; rfl; have := (h1 rfl).on; omega
  rw [c0 (df a3)]
  by_cases a4 : s.Room < s.On
  · rw [c1 (dt a4)]; cases b; rfl; have := (h1 rfl).on; omega
  rw [c0 (df a4)]
  by_cases a5 : 1048576 < s.Room
  · rw [c1 (dt a5)]; cases b; rfl; have := (h1 rfl).on; omega
  rw [c0 (df a5)]
  refine loop_all (n := s.Ticks.length) (by omega) (fun k => decide (okN (s.Ticks.getD k 0))) false (fun k hk _ => ?_) (by rw [c0 (dge _)]) (fun h => ?_) (fun h => ?_)
  · rw [c1 (dlt hk)]
    simp only [idx_get hk, Option.bind_some]
    rw [show s.Ticks.getD k 0 = s.Ticks[k] by simp [hk]]
    by_cases b1 : s.Ticks[k] < 0
    · rw [c1 (dt b1), df (by unfold okN; omega)]; rfl
    · rw [c0 (df b1)]
      by_cases b2 : 1048576 < s.Ticks[k]
      · rw [c1 (dt b2), df (by unfold okN; omega)]; rfl
      · rw [c0 (df b2), dt (by unfold okN; omega)]; rfl
  · cases b with
    | true => rfl
    | false =>
      refine absurd ⟨fun n hn => ?_, by omega, by omega⟩ (h2 rfl)
      obtain ⟨k, hk, rfl⟩ := List.getElem_of_mem hn
      have := of_decide_eq_true (h k hk)
      rwa [show s.Ticks.getD k 0 = s.Ticks[k] by simp [hk]] at this
  · cases b with
    | false => rfl
    | true =>
      obtain ⟨k, hk, hp⟩ := h
      have := of_decide_eq_false hp
      rw [show s.Ticks.getD k 0 = s.Ticks[k] by simp [hk]] at this
      exact absurd ((h1 rfl).ticks _ (List.getElem_mem hk)) this
theorem Steady_eq (s : PowerSupply) (hl : s.Ticks.length ≤ 5000) : power_Steady s = some (s.Ticks.any fun n => decide (0 < n)) := by
  unfold power_Steady slices_ContainsFunc_2 slices_IndexFunc_2
  have : ((loopM (fun (x1 : Int) => (bif decide (x1 < (List.length s.Ticks : Int)) then ((idx s.Ticks x1).bind fun u1 => (power_Steady_1 u1).bind fun y1 => bif y1 then (some (Lp.ret x1)) else (some (Lp.go (IntKind.wrap .i64 (x1 + 1))))) else (some (Lp.brk x1)) : Option (Lp (Int) (Int)))) NN 0).bind fun o => o.thn (fun (x1 : Int) => some (-1)) (fun r => some r)) = some (match s.Ticks.findIdx? (fun n => decide (0 < n)) with | some k => (k : Int) | none => -1) := by
    refine find_bind s.Ticks _ (fun k => (k : Int)) (by omega) (fun k hk => ?_) (by rw [c0 (dge _)]) (by cases s.Ticks.findIdx? _ <;> rfl)
    rw [c1 (dlt hk), idx_get hk, Option.bind_some, show power_Steady_1 s.Ticks[k] = some (decide (0 < s.Ticks[k])) from rfl, Option.bind_some]
    cases decide (0 < s.Ticks[k]) <;> rfl
  rw [this, Option.bind_some, ← List.findIdx?_isSome]
  cases s.Ticks.findIdx? _ with
  | none => rfl
  | some k => simp
theorem PowerFails_law (s : PowerSupply) (t : Int) (hl : s.Ticks.length ≤ 9223372036854775807) : law33_PowerFails s t = some true := by
  have hf : law33_few s = some (decide ((s.Ticks.length : Int) ≤ 300) || (decide ((4096 : Int) < (s.Ticks.length : Int)) && decide ((s.Ticks.length : Int) ≤ 5000))) := by
    unfold law33_few
    cases decide ((s.Ticks.length : Int) ≤ 300) <;> cases decide ((4096 : Int) < (s.Ticks.length : Int)) <;> rfl
  unfold law33_PowerFails
  rw [hf, Option.bind_some]
  cases hfb : (decide ((s.Ticks.length : Int) ≤ 300) || (decide ((4096 : Int) < (s.Ticks.length : Int)) && decide ((s.Ticks.length : Int) ≤ 5000))) with
  | false => rw [Bool.not_false, cond_true, awake_eq]; rfl
  | true =>
  have hl5 : s.Ticks.length ≤ 5000 := by simp at hfb; omega
  rw [Bool.not_true, cond_false]
  by_cases h1 : 20000 < t
  · rw [c1 (dt h1), awake_eq]; rfl
  rw [c0 (df h1)]
  have hst : ∀ {A : Type} {K : Lp (Bool × Int) Unit → Option A} {X : Option A}, K (.brk (s.Ticks.any (fun n => decide (0 < n)), (s.Ticks.length : Int))) = X → ((loopM (fun (x1, x2) => (bif decide (x2 < (List.length s.Ticks : Int)) then (bif x1 then (some (Lp.go (true, IntKind.wrap .i64 (x2 + 1)))) else ((idx s.Ticks x2).bind fun u1 => some (Lp.go (decide (0 < u1), IntKind.wrap .i64 (x2 + 1))))) else (some (Lp.brk (x1, x2))) : Option (Lp (Bool × Int) (Unit)))) NN (false, 0)).bind K) = X := by
    intro A K X hX
    refine run_bind (fun k => ((s.Ticks.take k).any (fun n => decide (0 < n)), (k : Int))) s.Ticks.length (.brk (s.Ticks.any (fun n => decide (0 < n)), (s.Ticks.length : Int))) rfl (by omega) (fun k hk => ?_) ?_ trivial hX
    · dsimp only
      rw [c1 (dlt hk), List.take_succ_eq_append_getElem hk, List.any_append, w64 (by omega)]
      cases (s.Ticks.take k).any fun n => decide (0 < n) with
      | true => rfl
      | false => rw [cond_false, idx_get hk, Option.bind_some]; simp
    · dsimp only
      rw [c0 (dge _), List.take_length]
  rcases Fails_eq s t hl with ⟨hk, hR, h⟩ | ⟨hk, hR, h⟩
  · rw [h, Option.bind_some, rRight_eq s false hl5 (by simp) (fun _ => hk), Option.bind_some]
    refine hst ?_
    dsimp only [Lp.thn]
    rw [hR, Option.bind_some, c0 (by rfl), Steady_eq s hl5, Option.bind_some, c0 (by simp), c1 (by rfl), awake_eq]
    rfl
  · rw [h, Option.bind_some, rRight_eq s true hl5 (fun _ => hk) (by simp), Option.bind_some]
    refine hst ?_
    dsimp only [Lp.thn]
    rw [hR, Option.bind_some, c0 (by rfl), Steady_eq s hl5, Option.bind_some, c0 (by simp), c0 (by rfl), Go_eq hk t (by omega), Option.bind_some]
    have hI := st_inv hk (times t)
    have hn : times t ≤ 4000000 := by unfold times; omega
    generalize stS s (times t) = p at hI ⊢
    have hlen := hI.len
    dsimp only
    rw [c0 (by rfl), c0 (by simp), c0 (by simp)]
    refine run_bind (fun k => (k : Int)) p.fails.length (.brk (p.fails.length : Int)) rfl (by omega) (fun k hk2 => ?_) (by rw [c0 (dge _)]) trivial (by dsimp only [Lp.thn]; rw [awake_eq]; rfl)
    rw [c1 (dlt hk2)]
    simp only [idx_get hk2, Option.bind_some]
    rw [c0 (by simp), w64 (by omega)]
    rfl
end Go.Proofs.Ythieojijnjdfgaa
