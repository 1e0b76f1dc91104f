/- Records. No program is in sight here. -/
import Derived.Test.YtpdahlpjbckoiaaGreatDoorM
import Derived.Test.YtpdahlpjbckoiaaGreatDoorPure
import Derived.Test.YtpdahlpjbckoiaaGreatDoorLoop
set_option linter.unusedVariables false
namespace Go.Proofs.YtpdahlpjbckoiaaGreatDoor
open Classical in
def F1 (out : List GRecord) (r : GRecord) : List GRecord := if out.any (fun q => q.Seq == r.Seq) then out else out ++ [r]
def F (l : List GRecord) : List GRecord := l.foldl F1 []
theorem F_snoc (l : List GRecord) (r : GRecord) : F (l ++ [r]) = F1 (F l) r := by simp [F]
theorem F_take (l : List GRecord) (k : Nat) (h : k < l.length) : F (l.take (k + 1)) = F1 (F (l.take k)) l[k] := by
  rw [List.take_succ_eq_append_getElem h, F_snoc]
theorem F1_any (out : List GRecord) (r : GRecord) (s : Int) : (F1 out r).any (fun q => q.Seq == s) = (out.any (fun q => q.Seq == s) || r.Seq == s) := by
  unfold F1
  split
  · rename_i h
    by_cases hs : r.Seq = s
    · subst hs; simp [h]
    · simp [hs]
  · simp [List.any_append]
theorem F_any (l : List GRecord) (s : Int) : (F l).any (fun q => q.Seq == s) = l.any (fun q => q.Seq == s) := by
  have : ∀ (l : List GRecord) (out : List GRecord), (l.foldl F1 out).any (fun q => q.Seq == s) = (out.any (fun q => q.Seq == s) || l.any (fun q => q.Seq == s)) := by
    intro l
    induction l with
    | nil => simp
    | cons r l ih => intro out; simp only [List.foldl_cons, ih, F1_any, List.any_cons, Bool.or_assoc]
  simpa [F] using this l []
theorem F1_len (out : List GRecord) (r : GRecord) : (F1 out r).length ≤ out.length + 1 := by unfold F1; split <;> simp
theorem F_len (l : List GRecord) : (F l).length ≤ l.length := by
  have : ∀ (l : List GRecord) (out : List GRecord), (l.foldl F1 out).length ≤ out.length + l.length := by
    intro l
    induction l with
    | nil => simp
    | cons r l ih => intro out; have := ih (F1 out r); have := F1_len out r; simp only [List.foldl_cons, List.length_cons]; omega
  simpa [F] using this l []
theorem F_take_len (l : List GRecord) (k : Nat) : (F (l.take k)).length ≤ k := Nat.le_trans (F_len _) (List.length_take_le _ _)
theorem Ref_eq (l : List GRecord) (hl : l.length ≤ 4294967296) : law04_Ref l = some l := by
  unfold law04_Ref
  refine loop_bind (fun s => ∃ k, k ≤ l.length ∧ s.2 = (k : Int) ∧ s.1 = l.take k) (fun s => l.length - s.2.toNat) (fun o => ∃ i, o = .brk (l, i)) ⟨0, by omega, rfl, by simp⟩ (NN_big (by simp; omega)) ?_ ?_
  · rintro ⟨x1, x2⟩ ⟨k, hk, rfl, rfl⟩
    dsimp only
    by_cases h : k < l.length
    · have hd : decide ((k : Int) < (l.length : Int)) = true := by simpa using h
      rw [hd, cond_true, idx_get h, Option.bind_some, room_ok (by simp; omega), Option.bind_some]
      refine ⟨_, rfl, ⟨k + 1, by omega, ?_, ?_⟩, ?_⟩
      · rw [w64 (by omega)]; omega
      · exact (List.take_succ_eq_append_getElem h).symm
      · rw [w64 (by omega)]; omega
    · have hd : decide ((k : Int) < (l.length : Int)) = false := by simpa using h
      rw [hd, cond_false]
      exact ⟨_, rfl, _, by rw [List.take_of_length_le (by omega)]⟩
  · rintro o ⟨i, rfl⟩
    rfl
theorem First_eq (l : List GRecord) (hl : l.length ≤ 4294967296) : record_First l = some (F l) := by
  unfold record_First
  refine loop_bind (fun s => ∃ k m, k ≤ l.length ∧ s.2.2 = (k : Int) ∧ s.1 = F (l.take k) ∧ s.2.1 = some m ∧ ∀ q, (mGet m q).getD false = s.1.any (fun r => r.Seq == q)) (fun s => l.length - s.2.2.toNat) (fun o => ∃ i m, o = .brk (F l, m, i))
    ⟨0, [], by omega, rfl, by simp [F], rfl, by simp [mGet]⟩ (NN_big (by simp; omega)) ?_ ?_
  · rintro ⟨x1, x2, x3⟩ ⟨k, m, hk, rfl, rfl, rfl, hm⟩
    dsimp only at hm ⊢
    by_cases h : k < l.length
    · have hd : decide ((k : Int) < (l.length : Int)) = true := by simpa using h
      have hln := F_take_len l k
      simp only [jn, hd, cond_true, idx_get h, Option.bind_some, mGetO, hm]
      cases ha : (F (l.take k)).any (fun r => r.Seq == l[k].Seq) with
      | true =>
        refine ⟨_, rfl, ⟨k + 1, m, by omega, ?_, ?_, rfl, ?_⟩, ?_⟩
        · show IntKind.wrap _ _ = _; rw [w64 (by omega)]; omega
        · rw [F_take l k h]; unfold F1; rw [if_pos ha]
        · exact hm
        · show _ - (IntKind.wrap _ _).toNat < _; rw [w64 (by omega)]; omega
      | false =>
        simp only [Bool.not_false, cond_true]
        rw [room_ok (show (F (l.take k)).length + [l[k]].length ≤ 8589934592 by simp; omega), Option.bind_some]
        refine ⟨_, rfl, ⟨k + 1, _, by omega, ?_, ?_, rfl, ?_⟩, ?_⟩
        · show IntKind.wrap _ _ = _; rw [w64 (by omega)]; omega
        · rw [F_take l k h]; unfold F1; rw [if_neg (by simp [ha])]
        · intro q
          dsimp only
          rw [mGet_set]
          by_cases hq : q = l[k].Seq
          · rw [if_pos hq]; simp [hq]
          · rw [if_neg hq, hm]; simp; intro hh; exact absurd hh.symm hq
        · show _ - (IntKind.wrap _ _).toNat < _; rw [w64 (by omega)]; omega
    · have hd : decide ((k : Int) < (l.length : Int)) = false := by simpa using h
      rw [hd, cond_false]
      exact ⟨_, rfl, _, _, by rw [List.take_of_length_le (by omega)]⟩
  · rintro o ⟨i, m, rfl⟩
    rfl
theorem Values_eq (l : List GRecord) (hl : l.length ≤ 4294967296) : record_Values l = some ((F l).map (·.Val)) := by
  unfold record_Values
  rw [First_eq l hl, Option.bind_some]
  have hF := F_len l
  generalize F l = f at hF
  refine loop_bind (fun s => ∃ k, k ≤ f.length ∧ s.2 = (k : Int) ∧ s.1 = (f.take k).map (·.Val)) (fun s => f.length - s.2.toNat) (fun o => ∃ i, o = .brk (f.map (·.Val), i)) ⟨0, by omega, rfl, by simp⟩ (NN_big (by simp; omega)) ?_ ?_
  · rintro ⟨x1, x2⟩ ⟨k, hk, rfl, rfl⟩
    dsimp only
    by_cases h : k < f.length
    · have hd : decide ((k : Int) < (f.length : Int)) = true := by simpa using h
      rw [hd, cond_true, idx_get h, Option.bind_some, room_ok (by simp; omega), Option.bind_some]
      refine ⟨_, rfl, ⟨k + 1, by omega, ?_, ?_⟩, ?_⟩
      · rw [w64 (by omega)]; omega
      · show (f.take k).map _ ++ [f[k].Val] = (f.take (k + 1)).map _
        rw [List.take_succ_eq_append_getElem h, List.map_append]
        rfl
      · rw [w64 (by omega)]; omega
    · have hd : decide ((k : Int) < (f.length : Int)) = false := by simpa using h
      rw [hd, cond_false]
      exact ⟨_, rfl, _, by rw [List.take_of_length_le (by omega)]⟩
  · rintro o ⟨i, rfl⟩
    rfl
theorem ahead_eq (l : List GRecord) (i : Nat) (hi : i < l.length) (hl : l.length ≤ 4294967296) :
    ∃ z : Int, ref04_ahead l i = some z ∧ ((z < 0 ∧ (l.take i).any (fun q => q.Seq == l[i].Seq) = false) ∨ (∃ k : Nat, ∃ hk : k < l.length, k < i ∧ z = k ∧ l[k].Seq = l[i].Seq ∧ (l.take k).any (fun q => q.Seq == l[i].Seq) = false)) := by
  unfold ref04_ahead
  obtain ⟨o, ho, hp⟩ := loop_some (n := NN) (s := (0 : Int)) (body := fun (x1 : Int) => (bif decide (x1 < (i : Int)) then ((idx l x1).bind fun u1 => (idx l (i : Int)).bind fun u2 => bif u1.Seq == u2.Seq then (some (Lp.ret x1)) else (some (Lp.go (IntKind.wrap .i64 (x1 + 1))))) else (some (.brk x1)) : Option (Lp (Int) (Int))))
    (fun x => ∃ k : Nat, k ≤ i ∧ x = k ∧ (l.take k).any (fun q => q.Seq == l[i].Seq) = false) (fun x => i - x.toNat)
    (fun o => (∃ x, o = .brk x ∧ (l.take i).any (fun q => q.Seq == l[i].Seq) = false) ∨ (∃ k : Nat, ∃ hk : k < l.length, k < i ∧ o = .ret (k : Int) ∧ l[k].Seq = l[i].Seq ∧ (l.take k).any (fun q => q.Seq == l[i].Seq) = false))
    ⟨0, by omega, rfl, by simp⟩ (NN_big (by show i - (0 : Int).toNat < _; omega)) (by
      rintro x ⟨k, hk, rfl, ha⟩
      by_cases h : k < i
      · have hkl : k < l.length := by omega
        have hd : decide ((k : Int) < (i : Int)) = true := by simpa using h
        rw [hd, cond_true, idx_get hkl, Option.bind_some, idx_get hi, Option.bind_some]
        by_cases hs : l[k].Seq = l[i].Seq
        · refine ⟨.ret (k : Int), by simp [hs], .inr ⟨k, hkl, h, rfl, hs, ha⟩⟩
        · have hb : (l[k].Seq == l[i].Seq) = false := by simpa using hs
          refine ⟨.go (IntKind.wrap .i64 ((k : Int) + 1)), by rw [hb]; rfl, ⟨k + 1, by omega, ?_, ?_⟩, ?_⟩
          · rw [w64 (by omega)]; omega
          · rw [List.take_succ_eq_append_getElem hkl, List.any_append, ha]; simp [hs]
          · rw [w64 (by omega)]; omega
      · have hd : decide ((k : Int) < (i : Int)) = false := by simpa using h
        rw [hd, cond_false]
        have hik : i = k := by omega
        subst hik
        exact ⟨_, rfl, .inl ⟨_, rfl, ha⟩⟩)
  rw [ho, Option.bind_some]
  rcases hp with ⟨x, rfl, ha⟩ | ⟨k, hk, hki, rfl, hs, ha⟩
  · exact ⟨-1, rfl, .inl ⟨by omega, ha⟩⟩
  · exact ⟨k, rfl, .inr ⟨k, hk, hki, rfl, hs, ha⟩⟩
theorem rFirst_eq (l : List GRecord) (hl : l.length ≤ 4294967296) : ref04_First l = some (F l) := by
  unfold ref04_First
  refine loop_bind (fun s => ∃ k, k ≤ l.length ∧ s.2 = (k : Int) ∧ s.1 = F (l.take k)) (fun s => l.length - s.2.toNat) (fun o => ∃ i, o = .brk (F l, i)) ⟨0, by omega, rfl, by simp [F]⟩ (NN_big (by simp; omega)) ?_ ?_
  · rintro ⟨x1, x2⟩ ⟨k, hk, rfl, rfl⟩
    dsimp only
    by_cases h : k < l.length
    · have hd : decide ((k : Int) < (l.length : Int)) = true := by simpa using h
      have hln := F_take_len l k
      obtain ⟨z, hz, hc⟩ := ahead_eq l k h hl
      simp only [jn, hd, cond_true, hz, idx_get h, Option.bind_some, room_ok (show (F (l.take k)).length + [l[k]].length ≤ 8589934592 by simp; omega)]
      rcases hc with ⟨h0, ha⟩ | ⟨j, hj, hji, rfl, hs, _⟩
      · have hd2 : decide (z < 0) = true := by simpa using h0
        rw [hd2, cond_true]
        refine ⟨_, rfl, ⟨k + 1, by omega, ?_, ?_⟩, ?_⟩
        · show IntKind.wrap _ _ = _; rw [w64 (by omega)]; omega
        · rw [F_take l k h]; unfold F1; rw [F_any, if_neg (by simp [ha])]
        · show _ - (IntKind.wrap _ _).toNat < _; rw [w64 (by omega)]; omega
      · have hd2 : decide ((j : Int) < 0) = false := by simp
        rw [hd2, cond_false]
        have ha : (l.take k).any (fun q => q.Seq == l[k].Seq) = true := by
          rw [List.any_eq_true]
          exact ⟨l[j], by rw [List.mem_take_iff_getElem]; exact ⟨j, by omega, rfl⟩, by simp [hs]⟩
        refine ⟨_, rfl, ⟨k + 1, by omega, ?_, ?_⟩, ?_⟩
        · show IntKind.wrap _ _ = _; rw [w64 (by omega)]; omega
        · rw [F_take l k h]; unfold F1; rw [F_any, if_pos ha]
        · show _ - (IntKind.wrap _ _).toNat < _; rw [w64 (by omega)]; omega
    · have hd : decide ((k : Int) < (l.length : Int)) = false := by simpa using h
      rw [hd, cond_false]
      exact ⟨_, rfl, _, by rw [List.take_of_length_le (by omega)]⟩
  · rintro o ⟨i, rfl⟩
    rfl
def OkAt (l : List GRecord) (k : Nat) (h : k < l.length) : Prop := l[k].Seq ≤ ((F (l.take k)).length : Int) ∧ ∀ r ∈ F (l.take k), r.Seq = l[k].Seq → r.Val = l[k].Val
def ConTo (l : List GRecord) (n : Nat) : Prop := ∀ k (h : k < l.length), k < n → OkAt l k h
def Con (l : List GRecord) : Prop := ∀ k (h : k < l.length), OkAt l k h
def WfL (l : List GRecord) : Prop := ∀ r ∈ l, 0 ≤ r.Seq ∧ r.Seq < 4294967296
theorem F_mem {l : List GRecord} {k j : Nat} {r : GRecord} (h : k ≤ j) (hr : r ∈ F (l.take k)) : r ∈ F (l.take j) := by
  induction j with
  | zero => rw [show k = 0 by omega] at hr; exact hr
  | succ j ih =>
    rcases Nat.lt_or_ge j k with h' | h'
    · rw [show k = j + 1 by omega] at hr; exact hr
    · have := ih h'
      rcases Nat.lt_or_ge j l.length with hj | hj
      · rw [F_take l j hj]
        unfold F1
        split
        · exact this
        · exact List.mem_append_left _ this
      · rw [List.take_of_length_le (by omega)]
        rw [List.take_of_length_le (by omega)] at this
        exact this
theorem F_num {l : List GRecord} (hw : WfL l) : ∀ (k : Nat), k ≤ l.length → ConTo l k → ∀ j (hj : j < (F (l.take k)).length), (F (l.take k))[j].Seq = j
  | 0, _, _, j, hj => by simp [F] at hj
  | k + 1, hk, hc, j, hj => by
    have hkl : k < l.length := by omega
    have ih := F_num hw k (by omega) (fun j h hj => hc j h (by omega))
    obtain ⟨h1, h2⟩ := hc k hkl (by omega)
    have hw' := hw l[k] (List.getElem_mem hkl)
    by_cases ha : (F (l.take k)).any (fun q => q.Seq == l[k].Seq) = true
    · have he : F (l.take (k + 1)) = F (l.take k) := by rw [F_take l k hkl]; unfold F1; rw [if_pos ha]
      simp only [he] at hj ⊢
      exact ih j hj
    · have he : F (l.take (k + 1)) = F (l.take k) ++ [l[k]] := by rw [F_take l k hkl]; unfold F1; rw [if_neg ha]
      simp only [he] at hj ⊢
      rcases Nat.lt_or_ge j (F (l.take k)).length with hj' | hj'
      · rw [List.getElem_append_left hj']; exact ih j hj'
      · have hjn : j = (F (l.take k)).length := by simp at hj; omega
        subst hjn
        rw [List.getElem_append_right (by omega)]
        simp only [Nat.sub_self, List.getElem_cons_zero]
        rcases Int.lt_or_eq_of_le h1 with hlt | heq
        · exfalso
          apply ha
          rw [List.any_eq_true]
          have hjj : l[k].Seq.toNat < (F (l.take k)).length := by omega
          refine ⟨(F (l.take k))[l[k].Seq.toNat], List.getElem_mem hjj, ?_⟩
          rw [ih _ hjj]
          simp
          omega
        · exact heq
theorem F_has {l : List GRecord} {k : Nat} {s : Int} (hnum : ∀ j (hj : j < (F (l.take k)).length), (F (l.take k))[j].Seq = j) (h0 : 0 ≤ s) : (F (l.take k)).any (fun q => q.Seq == s) = decide (s < ((F (l.take k)).length : Int)) := by
  rw [Bool.eq_iff_iff, List.any_eq_true, decide_eq_true_iff]
  constructor
  · rintro ⟨r, hr, hs⟩
    obtain ⟨j, hj, rfl⟩ := List.getElem_of_mem hr
    have := hnum j hj
    simp at hs
    omega
  · intro h
    have hj : s.toNat < (F (l.take k)).length := by omega
    exact ⟨_, List.getElem_mem hj, by rw [hnum _ hj]; simp; omega⟩
open Classical in
noncomputable def conB (l : List GRecord) : Bool := decide (Con l)
theorem Orderly_eq (l : List GRecord) (hw : WfL l) (hl : l.length < 4294967296) : record_Orderly l = some (conB l) := by
  unfold record_Orderly
  refine loop_bind (fun s => ∃ k, k ≤ l.length ∧ s.2 = (k : Int) ∧ s.1 = (F (l.take k)).map (·.Val) ∧ ConTo l k) (fun s => l.length - s.2.toNat)
    (fun o => (∃ s, o = .brk s ∧ Con l) ∨ (o = .ret false ∧ ¬ Con l)) ⟨0, by omega, rfl, by simp [F], fun k _ h => by omega⟩ (NN_big (by dsimp only; omega)) ?_ ?_
  · rintro ⟨x1, x2⟩ ⟨k, hk, rfl, rfl, hc⟩
    · dsimp only
      by_cases h : k < l.length
      · have hd : decide ((k : Int) < (l.length : Int)) = true := by simpa using h
        have hln := F_take_len l k
        have hnum := F_num hw k hk hc
        have hwk := hw l[k] (List.getElem_mem h)
        simp only [jn, hd, cond_true, idx_get h, Option.bind_some, List.length_map, w32u (show 0 ≤ ((F (l.take k)).length : Int) ∧ ((F (l.take k)).length : Int) < 4294967296 by omega), room_ok (show (F (l.take k)).length + [l[k].Val].length ≤ 8589934592 by simp; omega)]
        have hgo : ∀ x, OkAt l k h → x = (F (l.take (k + 1))).map (·.Val) → (∃ k', k' ≤ l.length ∧ (x, IntKind.wrap .i64 ((k : Int) + 1)).2 = (k' : Int) ∧ (x, IntKind.wrap .i64 ((k : Int) + 1)).1 = (F (l.take k')).map (·.Val) ∧ ConTo l k') ∧ l.length - (x, IntKind.wrap .i64 ((k : Int) + 1)).2.toNat < l.length - ((k : Int)).toNat := by
          intro x hok hx
          refine ⟨⟨k + 1, by omega, ?_, hx, fun j hj hjk => ?_⟩, ?_⟩
          · show IntKind.wrap _ _ = _; rw [w64 (by omega)]; omega
          · rcases Nat.lt_or_ge j k with h' | h'
            · exact hc j hj h'
            · have hjk' : j = k := by omega
              subst hjk'
              exact hok
          · show _ - (IntKind.wrap _ _).toNat < _; rw [w64 (by omega)]; omega
        by_cases h1 : ((F (l.take k)).length : Int) < l[k].Seq
        · rw [show decide (((F (l.take k)).length : Int) < l[k].Seq) = true by simpa using h1, cond_true]
          refine ⟨_, rfl, .inr ⟨rfl, fun hcon => ?_⟩⟩
          have := (hcon k h).1
          omega
        · rw [show decide (((F (l.take k)).length : Int) < l[k].Seq) = false by simpa using h1, cond_false]
          have hhas := F_has hnum hwk.1
          by_cases h2 : l[k].Seq = ((F (l.take k)).length : Int)
          · rw [show (l[k].Seq == ((F (l.take k)).length : Int)) = true by simpa using h2, cond_true]
            have hany : (F (l.take k)).any (fun q => q.Seq == l[k].Seq) = false := by rw [hhas]; simp; omega
            refine ⟨_, rfl, hgo _ ⟨by omega, fun r hr hs => ?_⟩ ?_⟩
            · have := List.any_eq_false.1 hany r hr
              simp [hs] at this
            · rw [F_take l k h]; unfold F1; rw [if_neg (by simp [hany])]; simp
          · rw [show (l[k].Seq == ((F (l.take k)).length : Int)) = false by simpa using h2, cond_false]
            have hj : l[k].Seq.toNat < (F (l.take k)).length := by omega
            have hi : idx ((F (l.take k)).map (·.Val)) l[k].Seq = some ((F (l.take k))[l[k].Seq.toNat]).Val := by
              rw [idx_nat hwk.1]; simp [hj]
            rw [hi, Option.bind_some]
            have hsq := hnum _ hj
            by_cases h3 : ((F (l.take k))[l[k].Seq.toNat]).Val = l[k].Val
            · rw [show (((F (l.take k))[l[k].Seq.toNat]).Val != l[k].Val) = false by simpa using h3, cond_false]
              have hany : (F (l.take k)).any (fun q => q.Seq == l[k].Seq) = true := by rw [hhas]; simp; omega
              refine ⟨_, rfl, hgo _ ⟨by omega, fun r hr hs => ?_⟩ ?_⟩
              · obtain ⟨j, hj', rfl⟩ := List.getElem_of_mem hr
                have := hnum j hj'
                have hjj : j = l[k].Seq.toNat := by omega
                subst hjj
                exact h3
              · rw [F_take l k h]; unfold F1; rw [if_pos hany]
            · rw [show (((F (l.take k))[l[k].Seq.toNat]).Val != l[k].Val) = true by simpa using h3, cond_true]
              refine ⟨_, rfl, .inr ⟨rfl, fun hcon => h3 ?_⟩⟩
              exact (hcon k h).2 _ (List.getElem_mem hj) (by rw [hsq]; omega)
      · have hd : decide ((k : Int) < (l.length : Int)) = false := by simpa using h
        rw [hd, cond_false]
        exact ⟨_, rfl, .inl ⟨_, rfl, fun j hj => hc j hj (by omega)⟩⟩
  · rintro o (⟨s, rfl, hc⟩ | ⟨rfl, hc⟩)
    · simp [Lp.thn, conB, hc]
    · simp [Lp.thn, conB, hc]
theorem rOrderly_eq (l : List GRecord) (hw : WfL l) (hl : l.length < 4294967296) : ref04_Orderly l = some (conB l) := by
  unfold ref04_Orderly
  refine loop_bind (fun x => ∃ k : Nat, k ≤ l.length ∧ x = (k : Int) ∧ ConTo l k) (fun x => l.length - x.toNat)
    (fun o => (∃ s, o = .brk s ∧ Con l) ∨ (o = .ret false ∧ ¬ Con l)) ⟨0, by omega, rfl, fun k _ h => by omega⟩ (NN_big (by omega)) ?_ ?_
  · rintro x ⟨k, hk, rfl, hc⟩
    by_cases h : k < l.length
    · have hd : decide ((k : Int) < (l.length : Int)) = true := by simpa using h
      have hln := F_take_len l k
      have hnum := F_num hw k hk hc
      have hwk := hw l[k] (List.getElem_mem h)
      have hhas := F_has hnum hwk.1
      rw [hd, cond_true]
      have hin : ∃ o, loopM (fun (x2, x3) => (bif decide (x3 < (k : Int)) then (jn (fun kk1 => (idx l x3).bind fun u1 => bif decide (x2 < (IntKind.wrap .i64 u1.Seq)) then ((idx l x3).bind fun u2 => kk1 (IntKind.wrap .i64 u2.Seq)) else (kk1 x2)) (fun (x4 : Int) => some (Lp.go (x4, IntKind.wrap .i64 (x3 + 1))))) else (some (Lp.brk (x2, x3))) : Option (Lp (Int × Int) (Unit)))) NN ((-1), 0) = some o ∧ ∃ m i, o = .brk (m, i) ∧ -1 ≤ m ∧ (∀ r ∈ l.take k, r.Seq ≤ m) ∧ (m = -1 ∨ ∃ r ∈ l.take k, r.Seq = m) := by
        refine loop_some (fun s => ∃ j : Nat, j ≤ k ∧ s.2 = (j : Int) ∧ -1 ≤ s.1 ∧ (∀ r ∈ l.take j, r.Seq ≤ s.1) ∧ (s.1 = -1 ∨ ∃ r ∈ l.take j, r.Seq = s.1)) (fun s => k - s.2.toNat)
          _ ⟨0, by omega, rfl, by dsimp only; omega, by simp, .inl rfl⟩ (NN_big (by dsimp only; omega)) ?_
        · rintro ⟨x2, x3⟩ ⟨j, hj, rfl, hm1, hle, hex⟩
          dsimp only at hm1 hle hex ⊢
          by_cases hjk : j < k
          · have hjl : j < l.length := by omega
            have hwj := hw l[j] (List.getElem_mem hjl)
            have hd : decide ((j : Int) < (k : Int)) = true := by simpa using hjk
            simp only [jn, hd, cond_true, idx_get hjl, Option.bind_some, w64 (show -9223372036854775808 ≤ l[j].Seq ∧ l[j].Seq < 9223372036854775808 by omega), w64 (show -9223372036854775808 ≤ (j : Int) + 1 ∧ (j : Int) + 1 < 9223372036854775808 by omega)]
            by_cases hlt : x2 < l[j].Seq
            · rw [show decide (x2 < l[j].Seq) = true by simpa using hlt, cond_true]
              refine ⟨_, rfl, ⟨j + 1, by omega, by dsimp only; omega, by dsimp only; omega, ?_, .inr ⟨l[j], ?_, rfl⟩⟩, by dsimp only; omega⟩
              · intro r hr
                rw [List.take_succ_eq_append_getElem hjl] at hr
                rcases List.mem_append.1 hr with hr | hr
                · have := hle r hr; dsimp only; omega
                · simp at hr; subst hr; exact Int.le_refl _
              · rw [List.take_succ_eq_append_getElem hjl]; exact List.mem_append_right _ (List.mem_singleton.2 rfl)
            · rw [show decide (x2 < l[j].Seq) = false by simpa using hlt, cond_false]
              refine ⟨_, rfl, ⟨j + 1, by omega, by dsimp only; omega, hm1, ?_, ?_⟩, by dsimp only; omega⟩
              · intro r hr
                rw [List.take_succ_eq_append_getElem hjl] at hr
                rcases List.mem_append.1 hr with hr | hr
                · exact hle r hr
                · simp at hr; subst hr; dsimp only; omega
              · rcases hex with hex | ⟨r, hr, hs⟩
                · exact .inl hex
                · exact .inr ⟨r, by rw [List.take_succ_eq_append_getElem hjl]; exact List.mem_append_left _ hr, hs⟩
          · have hd : decide ((j : Int) < (k : Int)) = false := by simpa using hjk
            rw [hd, cond_false]
            have hjk' : j = k := by omega
            subst hjk'
            exact ⟨_, rfl, _, _, rfl, hm1, hle, hex⟩
      obtain ⟨o, ho, m, i, rfl, hm1, hle, hex⟩ := hin
      have hm : m = ((F (l.take k)).length : Int) - 1 := by
        have hup : ∀ j (hj : j < (F (l.take k)).length), (j : Int) ≤ m := by
          intro j hj
          have ha : (l.take k).any (fun q => q.Seq == (j : Int)) = true := by
            rw [← F_any, F_has hnum (by omega)]; simpa using hj
          obtain ⟨r, hr, hs⟩ := List.any_eq_true.1 ha
          have := hle r hr
          simp at hs
          omega
        rcases hex with rfl | ⟨r, hr, rfl⟩
        · rcases Nat.eq_zero_or_pos (F (l.take k)).length with h0 | h0
          · omega
          · have := hup 0 h0; omega
        · have hwr := hw r (List.mem_of_mem_take hr)
          have ha : (F (l.take k)).any (fun q => q.Seq == r.Seq) = true := by
            rw [F_any, List.any_eq_true]; exact ⟨r, hr, by simp⟩
          rw [F_has hnum hwr.1] at ha
          have ha := of_decide_eq_true ha
          have := hup ((F (l.take k)).length - 1) (by omega)
          omega
      subst hm
      rw [ho, Option.bind_some]
      simp only [Lp.thn, idx_get h, Option.bind_some]
      obtain ⟨z, hz, hcz⟩ := ahead_eq l k h (by omega)
      have hgo : OkAt l k h → (∃ k', k' ≤ l.length ∧ IntKind.wrap .i64 ((k : Int) + 1) = ((k' : Nat) : Int) ∧ ConTo l k') ∧ l.length - (IntKind.wrap .i64 ((k : Int) + 1)).toNat < l.length - ((k : Int)).toNat := by
        intro hok
        refine ⟨⟨k + 1, by omega, ?_, fun j hj hjk => ?_⟩, ?_⟩
        · rw [w64 (by omega)]; omega
        · rcases Nat.lt_or_ge j k with h' | h'
          · exact hc j hj h'
          · have hjk' : j = k := by omega
            subst hjk'
            exact hok
        · rw [w64 (by omega)]; omega
      rw [w64 (show -9223372036854775808 ≤ ((F (l.take k)).length : Int) - 1 + 1 ∧ ((F (l.take k)).length : Int) - 1 + 1 < 9223372036854775808 by omega), w64 (show -9223372036854775808 ≤ l[k].Seq ∧ l[k].Seq < 9223372036854775808 by omega), hz, Option.bind_some]
      by_cases h1 : ((F (l.take k)).length : Int) < l[k].Seq
      · rw [show decide (((F (l.take k)).length : Int) - 1 + 1 < l[k].Seq) = true by simp; omega, cond_true]
        refine ⟨_, rfl, .inr ⟨rfl, fun hcon => ?_⟩⟩
        have := (hcon k h).1
        omega
      · rw [show decide (((F (l.take k)).length : Int) - 1 + 1 < l[k].Seq) = false by simp; omega, cond_false]
        rcases hcz with ⟨h0, ha⟩ | ⟨j, hj, hji, rfl, hs, ha⟩
        · rw [show decide (0 ≤ z) = false by simp; omega, cond_false]
          refine ⟨_, rfl, hgo ⟨by omega, fun r hr hs => ?_⟩⟩
          rw [← F_any] at ha
          have := List.any_eq_false.1 ha r hr
          simp [hs] at this
        · have hmem : l[j] ∈ F (l.take k) := by
            refine F_mem (k := j + 1) (by omega) ?_
            rw [F_take l j hj]
            unfold F1
            rw [F_any, hs, if_neg (by simp [ha])]
            simp
          have huniq : ∀ r ∈ F (l.take k), r.Seq = l[k].Seq → r = l[j] := by
            intro r hr hrs
            obtain ⟨a, ha', rfl⟩ := List.getElem_of_mem hr
            obtain ⟨b, hb', hb⟩ := List.getElem_of_mem hmem
            have e1 := hnum a ha'
            have e2 := hnum b hb'
            have : a = b := by rw [hb] at e2; omega
            subst this
            exact hb
          rw [show decide (0 ≤ (j : Int)) = true by simp, cond_true, idx_get hj, Option.bind_some]
          by_cases h3 : l[j].Val = l[k].Val
          · rw [show (l[j].Val != l[k].Val) = false by simpa using h3, cond_false]
            exact ⟨_, rfl, hgo ⟨by omega, fun r hr hs' => by rw [huniq r hr hs', h3]⟩⟩
          · rw [show (l[j].Val != l[k].Val) = true by simpa using h3, cond_true]
            exact ⟨_, rfl, .inr ⟨rfl, fun hcon => h3 ((hcon k h).2 _ hmem hs)⟩⟩
    · have hd : decide ((k : Int) < (l.length : Int)) = false := by simpa using h
      rw [hd, cond_false]
      exact ⟨_, rfl, .inl ⟨_, rfl, fun j hj => hc j hj (by omega)⟩⟩
  · rintro o (⟨s, rfl, hc⟩ | ⟨rfl, hc⟩)
    · simp [Lp.thn, conB, hc]
    · simp [Lp.thn, conB, hc]
end Go.Proofs.YtpdahlpjbckoiaaGreatDoor
