/- Plain laws of layer 4 (record): what the models of its functions compute. No program is in sight here. -/
import Derived.Test.YthkiglifgbamiaaM
import Derived.Test.YthkiglifgbamiaaPure
set_option linter.unusedVariables false
namespace Go.Proofs.Ythkiglifgbamiaa

/-- The records that are no replays. -/
def F1 (out : List Record) (r : Record) : List Record := if out.any (fun q => q.Seq == r.Seq) then out else out ++ [r]
def F (l : List Record) : List Record := l.foldl F1 []

theorem F_snoc (l : List Record) (r : Record) : F (l ++ [r]) = F1 (F l) r := by simp [F]
theorem F_take (l : List Record) (k : Nat) (h : k < l.length) : F (l.take (k + 1)) = F1 (F (l.take k)) l[k] := by
  rw [List.take_succ_eq_append_getElem h, F_snoc]
theorem F1_any (out : List Record) (r : Record) (s : Int) : (F1 out r).any (fun q => q.Seq == s) = (out.any (fun q => q.Seq == s) || r.Seq == s) := by
  unfold F1
  split
  · rename_i h
    by_cases hs : r.Seq = s
    · subst hs; simp [h]
    · simp [hs]
  · simp [List.any_append]
theorem F_any (l : List Record) (s : Int) : (F l).any (fun q => q.Seq == s) = l.any (fun q => q.Seq == s) := by
  have : ∀ (l : List Record) (out : List Record), (l.foldl F1 out).any (fun q => q.Seq == s) = (out.any (fun q => q.Seq == s) || l.any (fun q => q.Seq == s)) := by
    intro l
    induction l with
    | nil => simp
    | cons r l ih => intro out; simp only [List.foldl_cons, ih, F1_any, List.any_cons, Bool.or_assoc]
  simpa [F] using this l []
theorem F1_len (out : List Record) (r : Record) : (F1 out r).length ≤ out.length + 1 := by unfold F1; split <;> simp
theorem F_len (l : List Record) : (F l).length ≤ l.length := by
  have : ∀ (l : List Record) (out : List Record), (l.foldl F1 out).length ≤ out.length + l.length := by
    intro l
    induction l with
    | nil => simp
    | cons r l ih => intro out; have := ih (F1 out r); have := F1_len out r; simp only [List.foldl_cons, List.length_cons]; omega
  simpa [F] using this l []
theorem F_take_len (l : List Record) (k : Nat) : (F (l.take k)).length ≤ k := Nat.le_trans (F_len _) (List.length_take_le _ _)

theorem Ref_eq (l : List Record) (hl : l.length ≤ 4294967296) : law04_Ref l = some l := by
  unfold law04_Ref
  refine loop_bind (fun s => ∃ k, k ≤ l.length ∧ s.2 = (k : Int) ∧ s.1 = l.take k) (fun s => l.length - s.2.toNat) (fun o => ∃ i, o = .brk (l, i)) ⟨0, by omega, rfl, by simp⟩ (NN_big (by simp; omega)) ?_ ?_
  · rintro ⟨x1, x2⟩ ⟨k, hk, rfl, rfl⟩
    dsimp only
    by_cases h : k < l.length
    · have hd : decide ((k : Int) < (l.length : Int)) = true := by simpa using h
      rw [hd, cond_true, idx_get h, Option.bind_some, room_ok (by have := List.length_take_le k l; omega), Option.bind_some]
      refine ⟨_, rfl, ⟨k + 1, by omega, ?_, ?_⟩, ?_⟩
      · rw [w64 (by omega)]; omega
      · exact (List.take_succ_eq_append_getElem h).symm
      · rw [w64 (by omega)]; omega
    · have hd : decide ((k : Int) < (l.length : Int)) = false := by simpa using h
      rw [hd, cond_false]
      exact ⟨_, rfl, _, by rw [List.take_of_length_le (by omega)]⟩
  · rintro o ⟨i, rfl⟩
    rfl

theorem First_eq (l : List Record) (hl : l.length ≤ 4294967296) : record_First l = some (F l) := by
  unfold record_First
  refine loop_bind (fun s => ∃ k, k ≤ l.length ∧ s.2.1 = (k : Int) ∧ s.1 = F (l.take k) ∧ ∀ q, (mGet s.2.2 q).getD false = s.1.any (fun r => r.Seq == q)) (fun s => l.length - s.2.1.toNat) (fun o => ∃ i m, o = .brk (F l, i, m))
    ⟨0, by omega, rfl, by simp [F], by simp [mGet]⟩ (NN_big (by simp; omega)) ?_ ?_
  · rintro ⟨x1, x2, x3⟩ ⟨k, hk, rfl, rfl, hm⟩
    dsimp only at hm ⊢
    by_cases h : k < l.length
    · have hd : decide ((k : Int) < (l.length : Int)) = true := by simpa using h
      have hln := F_take_len l k
      simp only [jn, hd, cond_true, idx_get h, Option.bind_some, hm]
      cases ha : (F (l.take k)).any (fun r => r.Seq == l[k].Seq) with
      | true =>
        refine ⟨_, rfl, ⟨k + 1, by omega, ?_, ?_, ?_⟩, ?_⟩
        · show IntKind.wrap _ _ = _; rw [w64 (by omega)]; omega
        · rw [F_take l k h]; unfold F1; rw [if_pos ha]
        · exact hm
        · show _ - (IntKind.wrap _ _).toNat < _; rw [w64 (by omega)]; omega
      | false =>
        simp only [Bool.not_false, cond_true, room_ok (show (F (l.take k)).length + 1 ≤ 8589934592 by omega), Option.bind_some]
        refine ⟨_, rfl, ⟨k + 1, by omega, ?_, ?_, ?_⟩, ?_⟩
        · show IntKind.wrap _ _ = _; rw [w64 (by omega)]; omega
        · rw [F_take l k h]; unfold F1; rw [if_neg (by simp [ha])]
        · intro q
          dsimp only
          rw [mGet_set]
          by_cases hq : q = l[k].Seq
          · rw [if_pos hq]; simp [hq]
          · rw [if_neg hq, hm]; simp; intro hh; exact absurd hh.symm hq
        · show _ - (IntKind.wrap _ _).toNat < _; rw [w64 (by omega)]; omega
    · have hd : decide ((k : Int) < (l.length : Int)) = false := by simpa using h
      rw [hd, cond_false]
      exact ⟨_, rfl, _, _, by rw [List.take_of_length_le (by omega)]⟩
  · rintro o ⟨i, m, rfl⟩
    rfl

theorem Values_eq (l : List Record) (hl : l.length ≤ 4294967296) : record_Values l = some ((F l).map (·.Val)) := by
  unfold record_Values
  rw [First_eq l hl, Option.bind_some]
  have hF := F_len l
  generalize F l = f at hF
  refine loop_bind (fun s => ∃ k, k ≤ f.length ∧ s.2 = (k : Int) ∧ s.1 = (f.take k).map (·.Val)) (fun s => f.length - s.2.toNat) (fun o => ∃ i, o = .brk (f.map (·.Val), i)) ⟨0, by omega, rfl, by simp⟩ (NN_big (by simp; omega)) ?_ ?_
  · rintro ⟨x1, x2⟩ ⟨k, hk, rfl, rfl⟩
    dsimp only
    by_cases h : k < f.length
    · have hd : decide ((k : Int) < (f.length : Int)) = true := by simpa using h
      rw [hd, cond_true, idx_get h, Option.bind_some, room_ok (by simp; omega), Option.bind_some]
      refine ⟨_, rfl, ⟨k + 1, by omega, ?_, ?_⟩, ?_⟩
      · rw [w64 (by omega)]; omega
      · show (f.take k).map _ ++ [f[k].Val] = (f.take (k + 1)).map _
        rw [List.take_succ_eq_append_getElem h, List.map_append]
        rfl
      · rw [w64 (by omega)]; omega
    · have hd : decide ((k : Int) < (f.length : Int)) = false := by simpa using h
      rw [hd, cond_false]
      exact ⟨_, rfl, _, by rw [List.take_of_length_le (by omega)]⟩
  · rintro o ⟨i, rfl⟩
    rfl

theorem Replays_eq (l : List Record) (hl : l.length ≤ 4294967296) : record_Replays l = some ((l.length : Int) - ((F l).length : Int)) := by
  unfold record_Replays
  have hF := F_len l
  rw [First_eq l hl, Option.bind_some, w64 (by omega)]

/-- Where an earlier record of the same number lies. -/
theorem ahead_eq (l : List Record) (i : Nat) (hi : i < l.length) (hl : l.length ≤ 4294967296) :
    ∃ z : Int, ref04_ahead l i = some z ∧ ((z < 0 ∧ (l.take i).any (fun q => q.Seq == l[i].Seq) = false) ∨ (∃ k : Nat, ∃ hk : k < l.length, k < i ∧ z = k ∧ l[k].Seq = l[i].Seq ∧ (l.take k).any (fun q => q.Seq == l[i].Seq) = false)) := by
  unfold ref04_ahead
  obtain ⟨o, ho, hp⟩ := loop_some (n := NN) (s := (0 : Int)) (body := fun (x1 : Int) => (bif decide (x1 < (i : Int)) then ((idx l x1).bind fun u1 => (idx l (i : Int)).bind fun u2 => bif u1.Seq == u2.Seq then (some (Lp.ret x1)) else (some (Lp.go (IntKind.wrap .i64 (x1 + 1))))) else (some (.brk x1)) : Option (Lp (Int) (Int))))
    (fun x => ∃ k : Nat, k ≤ i ∧ x = k ∧ (l.take k).any (fun q => q.Seq == l[i].Seq) = false) (fun x => i - x.toNat)
    (fun o => (∃ x, o = .brk x ∧ (l.take i).any (fun q => q.Seq == l[i].Seq) = false) ∨ (∃ k : Nat, ∃ hk : k < l.length, k < i ∧ o = .ret (k : Int) ∧ l[k].Seq = l[i].Seq ∧ (l.take k).any (fun q => q.Seq == l[i].Seq) = false))
    ⟨0, by omega, rfl, by simp⟩ (NN_big (by show i - (0 : Int).toNat < _; omega)) (by
      rintro x ⟨k, hk, rfl, ha⟩
      by_cases h : k < i
      · have hkl : k < l.length := by omega
        have hd : decide ((k : Int) < (i : Int)) = true := by simpa using h
        rw [hd, cond_true, idx_get hkl, Option.bind_some, idx_get hi, Option.bind_some]
        by_cases hs : l[k].Seq = l[i].Seq
        · refine ⟨.ret (k : Int), by simp [hs], .inr ⟨k, hkl, h, rfl, hs, ha⟩⟩
        · have hb : (l[k].Seq == l[i].Seq) = false := by simpa using hs
          refine ⟨.go (IntKind.wrap .i64 ((k : Int) + 1)), by rw [hb]; rfl, ⟨k + 1, by omega, ?_, ?_⟩, ?_⟩
          · rw [w64 (by omega)]; omega
          · rw [List.take_succ_eq_append_getElem hkl, List.any_append, ha]; simp [hs]
          · rw [w64 (by omega)]; omega
      · have hd : decide ((k : Int) < (i : Int)) = false := by simpa using h
        rw [hd, cond_false]
        have hik : i = k := by omega
        subst hik
        exact ⟨_, rfl, .inl ⟨_, rfl, ha⟩⟩)
  rw [ho, Option.bind_some]
  rcases hp with ⟨x, rfl, ha⟩ | ⟨k, hk, hki, rfl, hs, ha⟩
  · exact ⟨-1, rfl, .inl ⟨by omega, ha⟩⟩
  · exact ⟨k, rfl, .inr ⟨k, hk, hki, rfl, hs, ha⟩⟩

theorem rFirst_eq (l : List Record) (hl : l.length ≤ 4294967296) : ref04_First l = some (F l) := by
  unfold ref04_First
  refine loop_bind (fun s => ∃ k, k ≤ l.length ∧ s.2 = (k : Int) ∧ s.1 = F (l.take k)) (fun s => l.length - s.2.toNat) (fun o => ∃ i, o = .brk (F l, i)) ⟨0, by omega, rfl, by simp [F]⟩ (NN_big (by simp; omega)) ?_ ?_
  · rintro ⟨x1, x2⟩ ⟨k, hk, rfl, rfl⟩
    dsimp only
    by_cases h : k < l.length
    · have hd : decide ((k : Int) < (l.length : Int)) = true := by simpa using h
      have hln := F_take_len l k
      obtain ⟨z, hz, hc⟩ := ahead_eq l k h hl
      simp only [jn, hd, cond_true, hz, idx_get h, Option.bind_some, room_ok (show (F (l.take k)).length + 1 ≤ 8589934592 by omega)]
      rcases hc with ⟨h0, ha⟩ | ⟨j, hj, hji, rfl, hs, _⟩
      · have hd2 : decide (z < 0) = true := by simpa using h0
        rw [hd2, cond_true]
        refine ⟨_, rfl, ⟨k + 1, by omega, ?_, ?_⟩, ?_⟩
        · show IntKind.wrap _ _ = _; rw [w64 (by omega)]; omega
        · rw [F_take l k h]; unfold F1; rw [F_any, if_neg (by simp [ha])]
        · show _ - (IntKind.wrap _ _).toNat < _; rw [w64 (by omega)]; omega
      · have hd2 : decide ((j : Int) < 0) = false := by simp
        rw [hd2, cond_false]
        have ha : (l.take k).any (fun q => q.Seq == l[k].Seq) = true := by
          rw [List.any_eq_true]
          exact ⟨l[j], by rw [List.mem_take_iff_getElem]; exact ⟨j, by omega, rfl⟩, by simp [hs]⟩
        refine ⟨_, rfl, ⟨k + 1, by omega, ?_, ?_⟩, ?_⟩
        · show IntKind.wrap _ _ = _; rw [w64 (by omega)]; omega
        · rw [F_take l k h]; unfold F1; rw [F_any, if_pos ha]
        · show _ - (IntKind.wrap _ _).toNat < _; rw [w64 (by omega)]; omega
    · have hd : decide ((k : Int) < (l.length : Int)) = false := by simpa using h
      rw [hd, cond_false]
      exact ⟨_, rfl, _, by rw [List.take_of_length_le (by omega)]⟩
  · rintro o ⟨i, rfl⟩
    rfl

/-- The k-th record is in order. -/
def OkAt (l : List Record) (k : Nat) (h : k < l.length) : Prop := l[k].Seq ≤ ((F (l.take k)).length : Int) ∧ ∀ r ∈ F (l.take k), r.Seq = l[k].Seq → r.Val = l[k].Val
def ConTo (l : List Record) (n : Nat) : Prop := ∀ k (h : k < l.length), k < n → OkAt l k h
def Con (l : List Record) : Prop := ∀ k (h : k < l.length), OkAt l k h
/-- Numbers of 32 bits. -/
def Wf (l : List Record) : Prop := ∀ r ∈ l, 0 ≤ r.Seq ∧ r.Seq < 4294967296

theorem F_mem {l : List Record} {k j : Nat} {r : Record} (h : k ≤ j) (hr : r ∈ F (l.take k)) : r ∈ F (l.take j) := by
  induction j with
  | zero => rw [show k = 0 by omega] at hr; exact hr
  | succ j ih =>
    rcases Nat.lt_or_ge j k with h' | h'
    · rw [show k = j + 1 by omega] at hr; exact hr
    · have := ih h'
      rcases Nat.lt_or_ge j l.length with hj | hj
      · rw [F_take l j hj]
        unfold F1
        split
        · exact this
        · exact List.mem_append_left _ this
      · rw [List.take_of_length_le (by omega)]
        rw [List.take_of_length_le (by omega)] at this
        exact this

theorem F_num {l : List Record} (hw : Wf l) : ∀ (k : Nat), k ≤ l.length → ConTo l k → ∀ j (hj : j < (F (l.take k)).length), (F (l.take k))[j].Seq = j
  | 0, _, _, j, hj => by simp [F] at hj
  | k + 1, hk, hc, j, hj => by
    have hkl : k < l.length := by omega
    have ih := F_num hw k (by omega) (fun j h hj => hc j h (by omega))
    obtain ⟨h1, h2⟩ := hc k hkl (by omega)
    have hw' := hw l[k] (List.getElem_mem hkl)
    by_cases ha : (F (l.take k)).any (fun q => q.Seq == l[k].Seq) = true
    · have he : F (l.take (k + 1)) = F (l.take k) := by rw [F_take l k hkl]; unfold F1; rw [if_pos ha]
      simp only [he] at hj ⊢
      exact ih j hj
    · have he : F (l.take (k + 1)) = F (l.take k) ++ [l[k]] := by rw [F_take l k hkl]; unfold F1; rw [if_neg ha]
      simp only [he] at hj ⊢
      rcases Nat.lt_or_ge j (F (l.take k)).length with hj' | hj'
      · rw [List.getElem_append_left hj']; exact ih j hj'
      · have hjn : j = (F (l.take k)).length := by simp at hj; omega
        subst hjn
        rw [List.getElem_append_right (by omega)]
        simp only [Nat.sub_self, List.getElem_cons_zero]
        rcases Int.lt_or_eq_of_le h1 with hlt | heq
        · exfalso
          apply ha
          rw [List.any_eq_true]
          have hjj : l[k].Seq.toNat < (F (l.take k)).length := by omega
          refine ⟨(F (l.take k))[l[k].Seq.toNat], List.getElem_mem hjj, ?_⟩
          rw [ih _ hjj]
          simp
          omega
        · exact heq

/-- A number below the count is met among the first records, at its own place. -/
theorem F_has {l : List Record} {k : Nat} {s : Int} (hnum : ∀ j (hj : j < (F (l.take k)).length), (F (l.take k))[j].Seq = j) (h0 : 0 ≤ s) : (F (l.take k)).any (fun q => q.Seq == s) = decide (s < ((F (l.take k)).length : Int)) := by
  rw [Bool.eq_iff_iff, List.any_eq_true, decide_eq_true_iff]
  constructor
  · rintro ⟨r, hr, hs⟩
    obtain ⟨j, hj, rfl⟩ := List.getElem_of_mem hr
    have := hnum j hj
    simp at hs
    omega
  · intro h
    have hj : s.toNat < (F (l.take k)).length := by omega
    exact ⟨_, List.getElem_mem hj, by rw [hnum _ hj]; simp; omega⟩

open Classical in
/-- Is a list in order? -/
noncomputable def conB (l : List Record) : Bool := decide (Con l)

theorem Orderly_eq (l : List Record) (hw : Wf l) (hl : l.length < 4294967296) : record_Orderly l = some (conB l) := by
  unfold record_Orderly
  refine loop_bind (fun s => ∃ k, k ≤ l.length ∧ s.2 = (k : Int) ∧ s.1 = (F (l.take k)).map (·.Val) ∧ ConTo l k) (fun s => l.length - s.2.toNat)
    (fun o => (∃ s, o = .brk s ∧ Con l) ∨ (o = .ret false ∧ ¬ Con l)) ⟨0, by omega, rfl, by simp [F], fun k _ h => by omega⟩ (NN_big (by dsimp only; omega)) ?_ ?_
  · rintro ⟨x1, x2⟩ ⟨k, hk, rfl, rfl, hc⟩
    · dsimp only
      by_cases h : k < l.length
      · have hd : decide ((k : Int) < (l.length : Int)) = true := by simpa using h
        have hln := F_take_len l k
        have hnum := F_num hw k hk hc
        have hwk := hw l[k] (List.getElem_mem h)
        simp only [jn, hd, cond_true, idx_get h, Option.bind_some, List.length_map, w32u (show 0 ≤ ((F (l.take k)).length : Int) ∧ ((F (l.take k)).length : Int) < 4294967296 by omega), room_ok (show (F (l.take k)).length + 1 ≤ 8589934592 by omega)]
        have hgo : ∀ x, OkAt l k h → x = (F (l.take (k + 1))).map (·.Val) → (∃ k', k' ≤ l.length ∧ (x, IntKind.wrap .i64 ((k : Int) + 1)).2 = (k' : Int) ∧ (x, IntKind.wrap .i64 ((k : Int) + 1)).1 = (F (l.take k')).map (·.Val) ∧ ConTo l k') ∧ l.length - (x, IntKind.wrap .i64 ((k : Int) + 1)).2.toNat < l.length - ((k : Int)).toNat := by
          intro x hok hx
          refine ⟨⟨k + 1, by omega, ?_, hx, fun j hj hjk => ?_⟩, ?_⟩
          · show IntKind.wrap _ _ = _; rw [w64 (by omega)]; omega
          · rcases Nat.lt_or_ge j k with h' | h'
            · exact hc j hj h'
            · have hjk' : j = k := by omega
              subst hjk'
              exact hok
          · show _ - (IntKind.wrap _ _).toNat < _; rw [w64 (by omega)]; omega
        by_cases h1 : ((F (l.take k)).length : Int) < l[k].Seq
        · rw [show decide (((F (l.take k)).length : Int) < l[k].Seq) = true by simpa using h1, cond_true]
          refine ⟨_, rfl, .inr ⟨rfl, fun hcon => ?_⟩⟩
          have := (hcon k h).1
          omega
        · rw [show decide (((F (l.take k)).length : Int) < l[k].Seq) = false by simpa using h1, cond_false]
          have hhas := F_has hnum hwk.1
          by_cases h2 : l[k].Seq = ((F (l.take k)).length : Int)
          · rw [show (l[k].Seq == ((F (l.take k)).length : Int)) = true by simpa using h2, cond_true]
            have hany : (F (l.take k)).any (fun q => q.Seq == l[k].Seq) = false := by rw [hhas]; simp; omega
            refine ⟨_, rfl, hgo _ ⟨by omega, fun r hr hs => ?_⟩ ?_⟩
            · have := List.any_eq_false.1 hany r hr
              simp [hs] at this
            · rw [F_take l k h]; unfold F1; rw [if_neg (by simp [hany])]; simp
          · rw [show (l[k].Seq == ((F (l.take k)).length : Int)) = false by simpa using h2, cond_false]
            have hj : l[k].Seq.toNat < (F (l.take k)).length := by omega
            have hi : idx ((F (l.take k)).map (·.Val)) l[k].Seq = some ((F (l.take k))[l[k].Seq.toNat]).Val := by
              rw [idx_nat hwk.1]; simp [hj]
            rw [hi, Option.bind_some]
            have hsq := hnum _ hj
            by_cases h3 : ((F (l.take k))[l[k].Seq.toNat]).Val = l[k].Val
            · rw [show (((F (l.take k))[l[k].Seq.toNat]).Val != l[k].Val) = false by simpa using h3, cond_false]
              have hany : (F (l.take k)).any (fun q => q.Seq == l[k].Seq) = true := by rw [hhas]; simp; omega
              refine ⟨_, rfl, hgo _ ⟨by omega, fun r hr hs => ?_⟩ ?_⟩
              · obtain ⟨j, hj', rfl⟩ := List.getElem_of_mem hr
                have := hnum j hj'
                have hjj : j = l[k].Seq.toNat := by omega
                subst hjj
                exact h3
              · rw [F_take l k h]; unfold F1; rw [if_pos hany]
            · rw [show (((F (l.take k))[l[k].Seq.toNat]).Val != l[k].Val) = true by simpa using h3, cond_true]
              refine ⟨_, rfl, .inr ⟨rfl, fun hcon => h3 ?_⟩⟩
              exact (hcon k h).2 _ (List.getElem_mem hj) (by rw [hsq]; omega)
      · have hd : decide ((k : Int) < (l.length : Int)) = false := by simpa using h
        rw [hd, cond_false]
        exact ⟨_, rfl, .inl ⟨_, rfl, fun j hj => hc j hj (by omega)⟩⟩
  · rintro o (⟨s, rfl, hc⟩ | ⟨rfl, hc⟩)
    · simp [Lp.thn, conB, hc]
    · simp [Lp.thn, conB, hc]

theorem awake_eq : law04_awake = some true := by decide +kernel

theorem rOrderly_eq (l : List Record) (hw : Wf l) (hl : l.length < 4294967296) : ref04_Orderly l = some (conB l) := by
  unfold ref04_Orderly
  refine loop_bind (fun x => ∃ k : Nat, k ≤ l.length ∧ x = (k : Int) ∧ ConTo l k) (fun x => l.length - x.toNat)
    (fun o => (∃ s, o = .brk s ∧ Con l) ∨ (o = .ret false ∧ ¬ Con l)) ⟨0, by omega, rfl, fun k _ h => by omega⟩ (NN_big (by omega)) ?_ ?_
  · rintro x ⟨k, hk, rfl, hc⟩
    by_cases h : k < l.length
    · have hd : decide ((k : Int) < (l.length : Int)) = true := by simpa using h
      have hln := F_take_len l k
      have hnum := F_num hw k hk hc
      have hwk := hw l[k] (List.getElem_mem h)
      have hhas := F_has hnum hwk.1
      rw [hd, cond_true]
      have hin : ∃ o, loopM (fun (x2, x3) => (bif decide (x3 < (k : Int)) then (jn (fun kk1 => (idx l x3).bind fun u1 => bif decide (x2 < (IntKind.wrap .i64 u1.Seq)) then ((idx l x3).bind fun u2 => kk1 (IntKind.wrap .i64 u2.Seq)) else (kk1 x2)) (fun (x4 : Int) => some (Lp.go (x4, IntKind.wrap .i64 (x3 + 1))))) else (some (Lp.brk (x2, x3))) : Option (Lp (Int × Int) (Unit)))) NN ((-1), 0) = some o ∧ ∃ m i, o = .brk (m, i) ∧ -1 ≤ m ∧ (∀ r ∈ l.take k, r.Seq ≤ m) ∧ (m = -1 ∨ ∃ r ∈ l.take k, r.Seq = m) := by
        refine loop_some (fun s => ∃ j : Nat, j ≤ k ∧ s.2 = (j : Int) ∧ -1 ≤ s.1 ∧ (∀ r ∈ l.take j, r.Seq ≤ s.1) ∧ (s.1 = -1 ∨ ∃ r ∈ l.take j, r.Seq = s.1)) (fun s => k - s.2.toNat)
          _ ⟨0, by omega, rfl, by dsimp only; omega, by simp, .inl rfl⟩ (NN_big (by dsimp only; omega)) ?_
        · rintro ⟨x2, x3⟩ ⟨j, hj, rfl, hm1, hle, hex⟩
          dsimp only at hm1 hle hex ⊢
          by_cases hjk : j < k
          · have hjl : j < l.length := by omega
            have hwj := hw l[j] (List.getElem_mem hjl)
            have hd : decide ((j : Int) < (k : Int)) = true := by simpa using hjk
            simp only [jn, hd, cond_true, idx_get hjl, Option.bind_some, w64 (show -9223372036854775808 ≤ l[j].Seq ∧ l[j].Seq < 9223372036854775808 by omega), w64 (show -9223372036854775808 ≤ (j : Int) + 1 ∧ (j : Int) + 1 < 9223372036854775808 by omega)]
            by_cases hlt : x2 < l[j].Seq
            · rw [show decide (x2 < l[j].Seq) = true by simpa using hlt, cond_true]
              refine ⟨_, rfl, ⟨j + 1, by omega, by dsimp only; omega, by dsimp only; omega, ?_, .inr ⟨l[j], ?_, rfl⟩⟩, by dsimp only; omega⟩
              · intro r hr
                rw [List.take_succ_eq_append_getElem hjl] at hr
                rcases List.mem_append.1 hr with hr | hr
                · have := hle r hr; dsimp only; omega
                · simp at hr; subst hr; exact Int.le_refl _
              · rw [List.take_succ_eq_append_getElem hjl]; exact List.mem_append_right _ (List.mem_singleton.2 rfl)
            · rw [show decide (x2 < l[j].Seq) = false by simpa using hlt, cond_false]
              refine ⟨_, rfl, ⟨j + 1, by omega, by dsimp only; omega, hm1, ?_, ?_⟩, by dsimp only; omega⟩
              · intro r hr
                rw [List.take_succ_eq_append_getElem hjl] at hr
                rcases List.mem_append.1 hr with hr | hr
                · exact hle r hr
                · simp at hr; subst hr; dsimp only; omega
              · rcases hex with hex | ⟨r, hr, hs⟩
                · exact .inl hex
                · exact .inr ⟨r, by rw [List.take_succ_eq_append_getElem hjl]; exact List.mem_append_left _ hr, hs⟩
          · have hd : decide ((j : Int) < (k : Int)) = false := by simpa using hjk
            rw [hd, cond_false]
            have hjk' : j = k := by omega
            subst hjk'
            exact ⟨_, rfl, _, _, rfl, hm1, hle, hex⟩
      obtain ⟨o, ho, m, i, rfl, hm1, hle, hex⟩ := hin
      have hm : m = ((F (l.take k)).length : Int) - 1 := by
        have hup : ∀ j (hj : j < (F (l.take k)).length), (j : Int) ≤ m := by
          intro j hj
          have ha : (l.take k).any (fun q => q.Seq == (j : Int)) = true := by
            rw [← F_any, F_has hnum (by omega)]; simpa using hj
          obtain ⟨r, hr, hs⟩ := List.any_eq_true.1 ha
          have := hle r hr
          simp at hs
          omega
        rcases hex with rfl | ⟨r, hr, rfl⟩
        · rcases Nat.eq_zero_or_pos (F (l.take k)).length with h0 | h0
          · omega
          · have := hup 0 h0; omega
        · have hwr := hw r (List.mem_of_mem_take hr)
          have ha : (F (l.take k)).any (fun q => q.Seq == r.Seq) = true := by
            rw [F_any, List.any_eq_true]; exact ⟨r, hr, by simp⟩
          rw [F_has hnum hwr.1] at ha
          have ha := of_decide_eq_true ha
          have := hup ((F (l.take k)).length - 1) (by omega)
          omega
      subst hm
      rw [ho, Option.bind_some]
      simp only [Lp.thn, idx_get h, Option.bind_some]
      obtain ⟨z, hz, hcz⟩ := ahead_eq l k h (by omega)
      have hgo : OkAt l k h → (∃ k', k' ≤ l.length ∧ IntKind.wrap .i64 ((k : Int) + 1) = ((k' : Nat) : Int) ∧ ConTo l k') ∧ l.length - (IntKind.wrap .i64 ((k : Int) + 1)).toNat < l.length - ((k : Int)).toNat := by
        intro hok
        refine ⟨⟨k + 1, by omega, ?_, fun j hj hjk => ?_⟩, ?_⟩
        · rw [w64 (by omega)]; omega
        · rcases Nat.lt_or_ge j k with h' | h'
          · exact hc j hj h'
          · have hjk' : j = k := by omega
            subst hjk'
            exact hok
        · rw [w64 (by omega)]; omega
      rw [w64 (show -9223372036854775808 ≤ ((F (l.take k)).length : Int) - 1 + 1 ∧ ((F (l.take k)).length : Int) - 1 + 1 < 9223372036854775808 by omega), w64 (show -9223372036854775808 ≤ l[k].Seq ∧ l[k].Seq < 9223372036854775808 by omega), hz, Option.bind_some]
      by_cases h1 : ((F (l.take k)).length : Int) < l[k].Seq
      · rw [show decide (((F (l.take k)).length : Int) - 1 + 1 < l[k].Seq) = true by simp; omega, cond_true]
        refine ⟨_, rfl, .inr ⟨rfl, fun hcon => ?_⟩⟩
        have := (hcon k h).1
        omega
      · rw [show decide (((F (l.take k)).length : Int) - 1 + 1 < l[k].Seq) = false by simp; omega, cond_false]
        rcases hcz with ⟨h0, ha⟩ | ⟨j, hj, hji, rfl, hs, ha⟩
        · rw [show decide (0 ≤ z) = false by simp; omega, cond_false]
          refine ⟨_, rfl, hgo ⟨by omega, fun r hr hs => ?_⟩⟩
          rw [← F_any] at ha
          have := List.any_eq_false.1 ha r hr
          simp [hs] at this
        · have hmem : l[j] ∈ F (l.take k) := by
            refine F_mem (k := j + 1) (by omega) ?_
            rw [F_take l j hj]
            unfold F1
            rw [F_any, hs, if_neg (by simp [ha])]
            simp
          have huniq : ∀ r ∈ F (l.take k), r.Seq = l[k].Seq → r = l[j] := by
            intro r hr hrs
            obtain ⟨a, ha', rfl⟩ := List.getElem_of_mem hr
            obtain ⟨b, hb', hb⟩ := List.getElem_of_mem hmem
            have e1 := hnum a ha'
            have e2 := hnum b hb'
            have : a = b := by rw [hb] at e2; omega
            subst this
            exact hb
          rw [show decide (0 ≤ (j : Int)) = true by simp, cond_true, idx_get hj, Option.bind_some]
          by_cases h3 : l[j].Val = l[k].Val
          · rw [show (l[j].Val != l[k].Val) = false by simpa using h3, cond_false]
            exact ⟨_, rfl, hgo ⟨by omega, fun r hr hs' => by rw [huniq r hr hs', h3]⟩⟩
          · rw [show (l[j].Val != l[k].Val) = true by simpa using h3, cond_true]
            exact ⟨_, rfl, .inr ⟨rfl, fun hcon => h3 ((hcon k h).2 _ hmem hs)⟩⟩
    · have hd : decide ((k : Int) < (l.length : Int)) = false := by simpa using h
      rw [hd, cond_false]
      exact ⟨_, rfl, .inl ⟨_, rfl, fun j hj => hc j hj (by omega)⟩⟩
  · rintro o (⟨s, rfl, hc⟩ | ⟨rfl, hc⟩)
    · simp [Lp.thn, conB, hc]
    · simp [Lp.thn, conB, hc]

/-- Do the values of the first records begin a list? -/
def preB (l : List Record) (out : List Int) : Bool := decide ((F l).map (·.Val) = out.take (F l).length)

theorem pre_iff {v out : List Int} (h : v.length ≤ out.length) : v = out.take v.length ↔ ∀ k (h1 : k < v.length) (h2 : k < out.length), v[k] = out[k] := by
  constructor
  · intro e k h1 h2
    have : v[k]? = (out.take v.length)[k]? := by rw [← e]
    rw [List.getElem?_take, if_pos h1, List.getElem?_eq_getElem h1, List.getElem?_eq_getElem h2] at this
    exact Option.some.inj this
  · intro hk
    apply List.ext_getElem
    · simp; omega
    · intro k h1 h2
      rw [List.getElem_take]
      exact hk k h1 _

theorem Begins_eq (l : List Record) (out : List Int) (hw : Wf l) (hl : l.length < 4294967296) (ho : out.length < 4294967296) : record_Begins l out = some (conB l && preB l out) := by
  unfold record_Begins
  have hF := F_len l
  rw [Values_eq l (by omega), Option.bind_some, Orderly_eq l hw hl, Option.bind_some]
  cases conB l with
  | false => rfl
  | true =>
    simp only [Bool.not_true, cond_false, Bool.true_and]
    unfold preB
    have hv : ((F l).map (·.Val)).length = (F l).length := by simp
    rw [← hv]
    have hFv : ((F l).map (·.Val)).length ≤ l.length := by rw [hv]; exact hF
    generalize (F l).map (·.Val) = v at hFv
    by_cases h : out.length < v.length
    · rw [dt (show (out.length : Int) < (v.length : Int) by omega), cond_true]
      rw [df]
      intro e
      have := congrArg List.length e
      simp at this
      omega
    · rw [df (show ¬ (out.length : Int) < (v.length : Int) by omega), cond_false]
      refine loop_all (n := v.length) (by omega) (fun k => v[k]? == out[k]?) false ?_ ?_ ?_ ?_
      · intro k hk _
        have hko : k < out.length := by omega
        rw [dt (show (k : Int) < (v.length : Int) by omega), cond_true, idx_get hk, Option.bind_some, idx_get hko, Option.bind_some, List.getElem?_eq_getElem hk, List.getElem?_eq_getElem hko]
        by_cases e : v[k] = out[k]
        · simp [e]
        · rw [show (v[k] != out[k]) = true by simpa using e, show (some v[k] == some out[k]) = false by simpa using e]; rfl
      · rw [df (show ¬ (v.length : Int) < (v.length : Int) by omega), cond_false]
      · intro hall
        show some true = _
        rw [dt]
        rw [pre_iff (by omega)]
        intro k h1 h2
        have := hall k h1
        simpa [h1, h2] using this
      · rintro ⟨k, hk, hp⟩
        show some false = _
        rw [df]
        intro e
        have hko : k < out.length := by omega
        have := (pre_iff (by omega)).1 e k hk hko
        simp [hk, hko, this] at hp

theorem rBegins_eq (l : List Record) (out : List Int) (hw : Wf l) (hl : l.length < 4294967296) (ho : out.length < 4294967296) : ref04_Begins l out = some (conB l && preB l out) := by
  unfold ref04_Begins
  have hF := F_len l
  rw [rFirst_eq l (by omega), Option.bind_some, rOrderly_eq l hw hl]
  unfold preB
  generalize F l = f at hF
  have hv : (f.map (·.Val)).length = f.length := by simp
  refine loop_all (n := f.length) (by omega) (fun k => decide (k < out.length) && ((f.map (·.Val))[k]? == out[k]?)) false ?_ ?_ ?_ ?_
  · intro k hk _
    rw [dt (show (k : Int) < (f.length : Int) by omega), cond_true]
    by_cases hko : k < out.length
    · rw [df (show ¬ (out.length : Int) ≤ (k : Int) by omega), cond_false, idx_get hk, Option.bind_some, idx_get hko, Option.bind_some]
      by_cases e : f[k].Val = out[k]
      · simp [e, hko, hk]
      · rw [show (f[k].Val != out[k]) = true by simpa using e, show (decide (k < out.length) && ((f.map (·.Val))[k]? == out[k]?)) = false by simp [hk, hko, e]]; rfl
    · rw [dt (show (out.length : Int) ≤ (k : Int) by omega), cond_true]
      simp [hko]
  · rw [df (show ¬ (f.length : Int) < (f.length : Int) by omega), cond_false]
  · intro hall
    show (some (conB l)).bind _ = _
    have : f.map (·.Val) = out.take f.length := by
      rw [← hv]
      have hle : f.length ≤ out.length := by
        rcases Nat.eq_zero_or_pos f.length with h0 | h0
        · omega
        · have := hall (f.length - 1) (by omega)
          simp at this
          omega
      rw [pre_iff (by omega)]
      intro k h1 h2
      have := hall k (by omega)
      simp [h2, show k < f.length by omega] at this
      simpa using this
    rw [dt this]
    simp
  · rintro ⟨k, hk, hp⟩
    show some false = _
    rw [df]
    · simp
    · intro e
      have hlen := congrArg List.length e
      simp at hlen
      have hko : k < out.length := by omega
      rw [← hv] at e
      have := (pre_iff (by omega)).1 e k (by omega) hko
      simp at this
      simp [hko, hk, this] at hp

theorem Whole_eq (l : List Record) (out : List Int) (hw : Wf l) (hl : l.length < 4294967296) (ho : out.length < 4294967296) : record_Whole l out = some ((conB l && preB l out) && ((F l).length == out.length)) := by
  unfold record_Whole
  rw [Begins_eq l out hw hl ho, Option.bind_some, Values_eq l (by omega)]
  cases conB l && preB l out with
  | false => rfl
  | true =>
    simp only [cond_true, Option.bind_some, List.length_map, Bool.true_and]
    congr 1
    rw [Bool.eq_iff_iff, beq_iff_eq, beq_iff_eq]
    omega

theorem RecordFirsts_law (l : List Record) (hw : Wf l) : law04_RecordFirsts l = some true := by
  unfold law04_RecordFirsts
  rw [awake_eq]
  by_cases h : 300 < l.length
  · rw [dt (show (300 : Int) < (l.length : Int) by omega), cond_true]; rfl
  · have hF := F_len l
    rw [df (show ¬ (300 : Int) < (l.length : Int) by omega), cond_false, Ref_eq l (by omega), Option.bind_some, First_eq l (by omega), Option.bind_some, Ref_eq (F l) (by omega), Option.bind_some, rFirst_eq l (by omega), Option.bind_some, Values_eq l (by omega), Option.bind_some]
    rw [show (((F l).length : Int) != ((F l).length : Int)) = false by simp, cond_false, show (((((F l).map (·.Val)).length : Nat) : Int) != ((F l).length : Int)) = false by simp, cond_false, Replays_eq l (by omega), Option.bind_some, w64 (by omega)]
    rw [show ((l.length : Int) - ((F l).length : Int) != (l.length : Int) - ((F l).length : Int)) = false by simp, cond_false, Orderly_eq l hw (by omega), Option.bind_some, rOrderly_eq l hw (by omega), Option.bind_some]
    rw [show (!(conB l == conB l)) = false by simp, cond_false]
    refine loop_all (n := (F l).length) (by omega) (fun _ => true) false ?_ ?_ (fun _ => rfl) (fun ⟨_, _, h⟩ => by cases h)
    · intro k hk _
      rw [dt (show (k : Int) < ((F l).length : Int) by omega), cond_true, idx_get hk, Option.bind_some, Option.bind_some]
      rw [show (!((F l)[k].Seq == (F l)[k].Seq && (F l)[k].Val == (F l)[k].Val)) = false by simp, cond_false, idx_get (show k < ((F l).map (·.Val)).length by simpa using hk), Option.bind_some, Option.bind_some]
      simp
    · rw [df (show ¬ ((F l).length : Int) < ((F l).length : Int) by omega), cond_false]

theorem RecordBegins_law (l : List Record) (out : List Int) (hw : Wf l) : law04_RecordBegins l out = some true := by
  unfold law04_RecordBegins
  rw [awake_eq]
  by_cases h : 300 < l.length
  · rw [dt (show (300 : Int) < (l.length : Int) by omega), cond_true]; rfl
  · rw [df (show ¬ (300 : Int) < (l.length : Int) by omega), cond_false]
    by_cases h2 : 300 < out.length
    · rw [dt (show (300 : Int) < (out.length : Int) by omega), cond_true]; rfl
    · rw [df (show ¬ (300 : Int) < (out.length : Int) by omega), cond_false, Ref_eq l (by omega), Option.bind_some, rBegins_eq l out hw (by omega) (by omega), Option.bind_some, Option.bind_some, cond_true,
        Begins_eq l out hw (by omega) (by omega), Option.bind_some, show ((conB l && preB l out) == (conB l && preB l out)) = true by simp, cond_true, Whole_eq l out hw (by omega) (by omega), Option.bind_some, rFirst_eq l (by omega)]
      cases conB l && preB l out with
      | false => simp
      | true =>
        have e : ((F l).length == out.length) = (((F l).length : Int) == (out.length : Int)) := by
          rw [Bool.eq_iff_iff, beq_iff_eq, beq_iff_eq]
          omega
        simp [e]

theorem RecordNumbers_law (l : List Record) (hw : Wf l) : law04_RecordNumbers l = some true := by
  unfold law04_RecordNumbers
  rw [awake_eq]
  by_cases h : 300 < l.length
  · rw [dt (show (300 : Int) < (l.length : Int) by omega), cond_true]; rfl
  · have hF := F_len l
    rw [df (show ¬ (300 : Int) < (l.length : Int) by omega), cond_false, Orderly_eq l hw (by omega), Option.bind_some]
    cases hc : conB l with
    | false => rfl
    | true =>
      have hcon : Con l := by unfold conB at hc; simpa using hc
      have hnum := F_num hw l.length (by omega) (fun k h _ => hcon k h)
      rw [List.take_of_length_le (by omega)] at hnum
      rw [show (!true) = false from rfl, cond_false, First_eq l (by omega), Option.bind_some]
      refine loop_all (n := (F l).length) (by omega) (fun _ => true) false ?_ ?_ (fun _ => rfl) (fun ⟨_, _, h⟩ => by cases h)
      · intro k hk _
        rw [dt (show (k : Int) < ((F l).length : Int) by omega), cond_true, idx_get hk, Option.bind_some, hnum k hk, w32u (by omega)]
        simp
      · rw [df (show ¬ ((F l).length : Int) < ((F l).length : Int) by omega), cond_false]

/-- A record is in order behind first records. -/
def OkR (out : List Record) (r : Record) : Prop := r.Seq ≤ (out.length : Int) ∧ ∀ q ∈ out, q.Seq = r.Seq → q.Val = r.Val
def CR : List Record → List Record → Prop
  | _, [] => True
  | out, r :: l => OkR out r ∧ CR (F1 out r) l
theorem CR_append (a b : List Record) : ∀ out, CR out (a ++ b) ↔ CR out a ∧ CR (a.foldl F1 out) b := by
  induction a with
  | nil => intro out; simp [CR]
  | cons r a ih => intro out; simp only [List.cons_append, CR, List.foldl_cons, ih, and_assoc]
theorem CR_iff (l : List Record) : ∀ out, CR out l ↔ ∀ k (h : k < l.length), OkR ((l.take k).foldl F1 out) l[k] := by
  induction l with
  | nil => intro out; simp [CR]
  | cons r l ih =>
    intro out
    simp only [CR, ih]
    constructor
    · rintro ⟨h0, h1⟩ k hk
      cases k with
      | zero => exact h0
      | succ k => exact h1 k (by simpa using hk)
    · intro h
      exact ⟨h 0 (by simp), fun k hk => h (k + 1) (by simpa using hk)⟩
theorem Con_iff (l : List Record) : Con l ↔ CR [] l := by rw [CR_iff]; rfl

theorem F_app (a b : List Record) : F (a ++ b) = b.foldl F1 (F a) := by simp [F]
theorem F1_had {out : List Record} {r : Record} (h : out.any (fun q => q.Seq == r.Seq) = true) : F1 out r = out := by unfold F1; rw [if_pos h]

/-- With a record more behind a part that has its number. -/
theorem Con_more {a b : List Record} {r : Record} (h : a.any (fun q => q.Seq == r.Seq) = true) : (Con (a ++ r :: b) ↔ Con (a ++ b) ∧ OkR (F a) r) ∧ F (a ++ r :: b) = F (a ++ b) := by
  have hF : F1 (F a) r = F a := F1_had (by rw [F_any]; exact h)
  refine ⟨?_, ?_⟩
  · rw [Con_iff, Con_iff, CR_append, CR_append]
    show CR [] a ∧ OkR (F a) r ∧ CR (F1 (F a) r) b ↔ (CR [] a ∧ CR (F a) b) ∧ OkR (F a) r
    rw [hF]
    constructor
    · rintro ⟨h1, h2, h3⟩; exact ⟨⟨h1, h3⟩, h2⟩
    · rintro ⟨⟨h1, h3⟩, h2⟩; exact ⟨h1, h2, h3⟩
  · rw [F_app, F_app, List.foldl_cons, hF]

/-- Of a list in order each record's number stands among the first records, with its value and no other. -/
theorem Con_val {l : List Record} (hw : Wf l) (hc : Con l) {i j : Nat} (hi : i < l.length) (hij : i < j) (hj : j ≤ l.length) :
    l[i].Seq ≤ ((F (l.take j)).length : Int) ∧ ∃ q ∈ F (l.take j), q.Seq = l[i].Seq ∧ q.Val = l[i].Val ∧ ∀ q' ∈ F (l.take j), q'.Seq = l[i].Seq → q' = q := by
  have hnum := F_num hw j hj (fun k h _ => hc k h)
  have hwi := hw l[i] (List.getElem_mem hi)
  have hex : ∃ q ∈ F (l.take j), q.Seq = l[i].Seq ∧ q.Val = l[i].Val := by
    by_cases ha : (F (l.take i)).any (fun q => q.Seq == l[i].Seq) = true
    · obtain ⟨q, hq, hs⟩ := List.any_eq_true.1 ha
      have hs' : q.Seq = l[i].Seq := by simpa using hs
      exact ⟨q, F_mem (by omega) hq, hs', (hc i hi).2 q hq hs'⟩
    · refine ⟨l[i], F_mem (k := i + 1) (by omega) ?_, rfl, rfl⟩
      rw [F_take l i hi]
      unfold F1
      rw [if_neg ha]
      exact List.mem_append_right _ (List.mem_singleton.2 rfl)
  obtain ⟨q, hq, hs, hv⟩ := hex
  obtain ⟨a, ha, hqa⟩ := List.getElem_of_mem hq
  have e1 := hnum a ha
  refine ⟨by rw [hqa] at e1; omega, q, hq, hs, hv, fun q' hq' hs' => ?_⟩
  obtain ⟨b, hb, rfl⟩ := List.getElem_of_mem hq'
  have e2 := hnum b hb
  have : a = b := by rw [hqa] at e1; omega
  subst this
  exact hqa

/-- The two copies, up to a place and from there on. -/
theorem copy_loop {A : Type} {l : List Record} {f : Lp (List Record × List Record × Int) Unit → Option A} {X : Option A} {i0 n : Nat} {x0 y0 : List Record} {t : Int} (ht : t = (n : Int)) (hn : n ≤ l.length) (hi : i0 ≤ n) (hl : l.length ≤ 1000000) (hx : x0.length ≤ 1000000 + i0) (hy : y0.length ≤ 1000000 + i0)
    (hf : f (.brk (x0 ++ (l.take n).drop i0, y0 ++ (l.take n).drop i0, (n : Int))) = X) :
    (loopM (fun (x1, x2, x3) => (bif decide (x3 < t) then ((idx l x3).bind fun u1 => (room ((x1).length + 1)).bind fun _ => (idx l x3).bind fun u2 => (room ((x2).length + 1)).bind fun _ => some (Lp.go (x1 ++ [u1], x2 ++ [u2], IntKind.wrap .i64 (x3 + 1)))) else (some (Lp.brk (x1, x2, x3))) : Option (Lp ((List Record) × (List Record) × Int) (Unit)))) NN (x0, y0, (i0 : Int))).bind f = X := by
  subst ht
  refine loop_bind (fun s => ∃ k : Nat, i0 ≤ k ∧ k ≤ n ∧ s.2.2 = (k : Int) ∧ s.1 = x0 ++ (l.take k).drop i0 ∧ s.2.1 = y0 ++ (l.take k).drop i0) (fun s => n - s.2.2.toNat) (fun o => o = .brk (x0 ++ (l.take n).drop i0, y0 ++ (l.take n).drop i0, (n : Int)))
    ⟨i0, by omega, hi, rfl, by simp, by simp⟩ (NN_big (by dsimp only; omega)) ?_ (fun o ho => by rw [ho]; exact hf)
  rintro ⟨x1, x2, x3⟩ ⟨k, hik, hk, rfl, rfl, rfl⟩
  dsimp only
  by_cases h : k < n
  · have hkl : k < l.length := by omega
    have hlen : ((l.take k).drop i0).length ≤ k - i0 := by simp; omega
    rw [dt (show (k : Int) < (n : Int) by omega), cond_true, idx_get hkl, Option.bind_some, room_ok (by simp only [List.length_append]; omega), Option.bind_some, Option.bind_some, room_ok (by simp only [List.length_append]; omega), Option.bind_some]
    have hs : (l.take (k + 1)).drop i0 = (l.take k).drop i0 ++ [l[k]] := by
      rw [List.take_succ_eq_append_getElem hkl, List.drop_append_of_le_length (by simp; omega)]
    refine ⟨_, rfl, ⟨k + 1, by omega, by omega, ?_, ?_, ?_⟩, ?_⟩
    · show IntKind.wrap _ _ = _; rw [w64 (by omega)]; omega
    · show _ ++ [l[k]] = _; rw [hs, List.append_assoc]
    · show _ ++ [l[k]] = _; rw [hs, List.append_assoc]
    · show _ - (IntKind.wrap _ _).toNat < _; rw [w64 (by omega)]; omega
  · have hkn : k = n := by omega
    subst hkn
    rw [df (show ¬ (k : Int) < (k : Int) by omega), cond_false]
    exact ⟨_, rfl, rfl⟩

theorem RecordReplays_law (x : Replay) (hw : Wf x.L) : law04_RecordReplays x = some true := by
  obtain ⟨l, fr, to, val⟩ := x
  unfold law04_RecordReplays
  rw [awake_eq]
  dsimp only at hw ⊢
  by_cases h : 300 < l.length
  · rw [dt (show (300 : Int) < (l.length : Int) by omega), cond_true]; rfl
  rw [df (show ¬ (300 : Int) < (l.length : Int) by omega), cond_false]
  by_cases h1 : fr < 0
  · rw [dt h1, cond_true]; rfl
  rw [df h1, cond_false]
  by_cases h2 : to ≤ fr
  · rw [dt h2, cond_true]; rfl
  rw [df h2, cond_false]
  by_cases h3 : (l.length : Int) < to
  · rw [dt h3, cond_true]; rfl
  rw [df h3, cond_false]
  obtain ⟨i, rfl⟩ := Int.eq_ofNat_of_zero_le (show 0 ≤ fr by omega)
  obtain ⟨n, rfl⟩ := Int.eq_ofNat_of_zero_le (show 0 ≤ to by omega)
  have hil : i < l.length := by omega
  have hin : i < n := by omega
  have hnl : n ≤ l.length := by omega
  refine copy_loop (i0 := 0) rfl hnl (by omega) (by omega) (by simp) (by simp) ?_
  simp only [List.drop_zero, List.nil_append, Lp.thn]
  rw [idx_get hil, Option.bind_some, room_ok (by simp; omega), Option.bind_some, Option.bind_some, Option.bind_some]
  refine copy_loop (i0 := n) (n := l.length) rfl (Nat.le_refl _) hnl (by omega) (by simp; omega) (by simp; omega) ?_
  simp only [List.take_length]
  have ha : (l.take n).any (fun q => q.Seq == l[i].Seq) = true := by
    rw [List.any_eq_true]
    exact ⟨l[i], by rw [List.mem_take_iff_getElem]; exact ⟨i, by omega, rfl⟩, by simp⟩
  have hab : l.take n ++ l.drop n = l := List.take_append_drop n l
  have hm1 := Con_more (a := l.take n) (b := l.drop n) (r := l[i]) ha
  have hm2 := Con_more (a := l.take n) (b := l.drop n) (r := ⟨l[i].Seq, val⟩) ha
  rw [hab] at hm1 hm2
  have e1 : l.take n ++ [l[i]] ++ l.drop n = l.take n ++ l[i] :: l.drop n := by simp
  have e2 : l.take n ++ [(⟨l[i].Seq, val⟩ : Record)] ++ l.drop n = l.take n ++ (⟨l[i].Seq, val⟩ : Record) :: l.drop n := by simp
  have hlen : (l.take n ++ l[i] :: l.drop n).length = l.length + 1 := by simp; omega
  have hlen2 : (l.take n ++ (⟨l[i].Seq, val⟩ : Record) :: l.drop n).length = l.length + 1 := by simp; omega
  have hF := F_len l
  rw [e1, e2]
  rw [First_eq l (by omega), Option.bind_some, First_eq _ (by omega), Option.bind_some, hm1.2, show (((F l).length : Int) != ((F l).length : Int)) = false by simp, cond_false, Replays_eq _ (by omega), Option.bind_some, Replays_eq l (by omega), Option.bind_some, hm1.2, hlen, w64 (by omega)]
  rw [show (((l.length + 1 : Nat) : Int) - ((F l).length : Int) != (l.length : Int) - ((F l).length : Int) + 1) = false by rw [bne_eq_false_iff_eq]; omega, cond_false]
  refine loop_all (n := (F l).length) (by omega) (fun _ => true) false ?_ ?_ (fun _ => ?_) (fun ⟨_, _, h⟩ => by cases h)
  · intro k hk _
    rw [dt (show (k : Int) < ((F l).length : Int) by omega), cond_true, idx_get hk, Option.bind_some, Option.bind_some]
    simp
  · rw [df (show ¬ ((F l).length : Int) < ((F l).length : Int) by omega), cond_false]
  show (record_Orderly l).bind _ = _
  have hwf : ∀ {r : Record}, 0 ≤ r.Seq ∧ r.Seq < 4294967296 → Wf (l.take n ++ r :: l.drop n) := by
    intro r hr q hq
    rcases List.mem_append.1 hq with hq | hq
    · exact hw q (List.mem_of_mem_take hq)
    · rcases List.mem_cons.1 hq with rfl | hq
      · exact hr
      · exact hw q (List.mem_of_mem_drop hq)
  have hwi := hw l[i] (List.getElem_mem hil)
  rw [Orderly_eq l hw (by omega), Option.bind_some]
  cases hc : conB l with
  | false => rfl
  | true =>
    have hcon : Con l := by unfold conB at hc; simpa using hc
    obtain ⟨hle, q, hq, hs, hv, hu⟩ := Con_val hw hcon hil hin hnl
    have hmore : conB (l.take n ++ l[i] :: l.drop n) = true := by
      unfold conB
      simp only [decide_eq_true_eq]
      exact hm1.1.2 ⟨hcon, hle, fun q' hq' hs' => by rw [hu q' hq' hs']; exact hv⟩
    have hother : conB (l.take n ++ (⟨l[i].Seq, val⟩ : Record) :: l.drop n) = (val == l[i].Val) := by
      unfold conB
      rw [Bool.eq_iff_iff, beq_iff_eq]
      simp only [decide_eq_true_eq]
      rw [hm2.1]
      constructor
      · rintro ⟨_, _, h⟩
        rw [← hv]
        exact (h q hq hs).symm
      · rintro rfl
        exact ⟨hcon, hle, fun q' hq' hs' => by rw [hu q' hq' hs']; exact hv⟩
    rw [show (!true) = false from rfl, cond_false, Option.bind_some, cond_true, Orderly_eq _ (hwf hwi) (by omega), Option.bind_some, hmore, cond_true, Orderly_eq _ (hwf (r := ⟨l[i].Seq, val⟩) hwi) (by omega), Option.bind_some, hother, Option.bind_some]
    simp

/-- The rows' own conditions: the numbers are of 32 bits, and no slice is longer than may be. -/
theorem wf_list {l : List Record} {M : Nat} (h : (∀ x ∈ l, (0 ≤ x.Seq ∧ x.Seq < 4294967296) ∧ (0 ≤ x.Val ∧ x.Val < 4294967296)) ∧ l.length ≤ M) : Wf l := fun r hr => (h.1 r hr).1
end Go.Proofs.Ythkiglifgbamiaa
