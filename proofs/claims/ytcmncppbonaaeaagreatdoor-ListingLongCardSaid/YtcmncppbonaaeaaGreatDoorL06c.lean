/- Plain laws on the lines of instructions: a line that is read is that of an instruction, and each such line is read. No program is in sight here. -/
import Derived.Test.YtcmncppbonaaeaaGreatDoorL06b
set_option linter.unusedVariables false
namespace Go.Proofs.YtcmncppbonaaeaaGreatDoor

/-! Where a separator stands. -/
theorem occ_no {a r : List UInt8} {c : UInt8} {t : List UInt8} (h : c ∉ a) : ∀ j, j < a.length → Lib.occAt (a ++ r) (c :: t) j = false := by
  intro j hj
  cases ho : Lib.occAt (a ++ r) (c :: t) j with
  | false => rfl
  | true =>
    have := Lib.occAt_head rfl ho
    rw [List.getElem?_append_left hj] at this
    exact absurd (List.mem_of_getElem? this) h
theorem index_sep {a r : List UInt8} {c : UInt8} {t : List UInt8} (h : c ∉ a) : Lib.index (a ++ c :: (t ++ r)) (c :: t) = (a.length : Int) :=
  Lib.index_first (by simp) (by simp [Lib.occAt]) (occ_no h)
theorem index_no {a : List UInt8} {c : UInt8} {t : List UInt8} (h : c ∉ a) : Lib.index a (c :: t) = -1 :=
  Lib.index_none fun j hj => by
    rcases Nat.lt_or_ge j a.length with h' | h'
    · have := occ_no (r := []) (t := t) h j h'
      rwa [List.append_nil] at this
    · simp [Lib.occAt, List.drop_eq_nil_of_le h']
theorem cut_sep {a r : List UInt8} {c : UInt8} (h : c ∉ a) : Lib.cut (a ++ c :: r) [c] = (a, r, true) := by
  have := index_sep (r := r) (t := []) h
  rw [List.nil_append] at this
  unfold Lib.cut
  rw [this, if_pos (by omega)]
  simp
theorem count_sep {a r : List UInt8} {c : UInt8} {t : List UInt8} (h : c ∉ a) : Lib.count (a ++ c :: (t ++ r)) (c :: t) = 1 + Lib.count r (c :: t) := by
  rw [Lib.count_hit (by simp) (index_sep h)]
  congr 2
  simp [List.drop_append, List.drop_eq_nil_of_le]
theorem splitK_sep {a r : List UInt8} {c : UInt8} {t : List UInt8} (save k : Nat) (h : c ∉ a) : Lib.splitK (c :: t) save (k + 1) (a ++ c :: (t ++ r)) = (a ++ (c :: (t ++ r)).take save) :: Lib.splitK (c :: t) save k r := by
  conv => lhs; unfold Lib.splitK
  rw [index_sep h, if_neg (by rw [beq_iff_eq]; omega)]
  have e1 : List.take (((a.length : Nat) : Int).toNat + save) (a ++ c :: (t ++ r)) = a ++ (c :: (t ++ r)).take save := by simp [List.take_append, List.take_of_length_le]
  have e2 : List.drop (((a.length : Nat) : Int).toNat + (c :: t).length) (a ++ c :: (t ++ r)) = r := by simp [List.drop_append, List.drop_eq_nil_of_le]
  rw [e1, e2]
theorem splitK_end {a : List UInt8} {c : UInt8} {t : List UInt8} (save : Nat) (h : c ∉ a) : Lib.splitK (c :: t) save (Lib.count a (c :: t)) a = [a] := by
  rw [Lib.count_miss (index_no h)]
  rfl
theorem join_cons2 (x y : List UInt8) (r : List (List UInt8)) : Lib.join (x :: y :: r) [44, 32] = x ++ 44 :: ([32] ++ Lib.join (y :: r) [44, 32]) := by
  simp [Lib.join_cons, Lib.joinTail]
theorem split_join : ∀ (r : List (List UInt8)) (x : List UInt8), (∀ y ∈ x :: r, (44 : UInt8) ∉ y) → Lib.splitK [44, 32] 0 (Lib.count (Lib.join (x :: r) [44, 32]) [44, 32]) (Lib.join (x :: r) [44, 32]) = x :: r
  | [], x, h => by
    rw [Lib.join_one]
    exact splitK_end 0 (h x (List.mem_cons_self ..))
  | y :: r, x, h => by
    have hx := h x (List.mem_cons_self ..)
    rw [join_cons2, count_sep hx, Nat.add_comm, splitK_sep 0 _ hx, split_join r y (fun z hz => h z (List.mem_cons_of_mem _ hz))]
    simp
theorem splitK_len (sep : List UInt8) (save : Nat) : ∀ (k : Nat) (s : List UInt8), ∀ x ∈ Lib.splitK sep save k s, x.length ≤ s.length
  | 0, s, x, h => by
    unfold Lib.splitK at h
    rw [List.mem_singleton.1 h]
    omega
  | k + 1, s, x, h => by
    unfold Lib.splitK at h
    split at h
    · rw [List.mem_singleton.1 h]
      omega
    · rcases List.mem_cons.1 h with rfl | h
      · simp only [List.length_take]
        omega
      · have := splitK_len sep save k _ x h
        simp only [List.length_drop] at this
        omega
theorem cut_len (s sep : List UInt8) : (Lib.cut s sep).1.length ≤ s.length ∧ (Lib.cut s sep).2.1.length ≤ s.length := by
  unfold Lib.cut
  split
  · simp only [List.length_take, List.length_drop]
    omega
  · simp
theorem trimSuffix_app (a : List UInt8) (c : UInt8) : Lib.trimSuffix (a ++ [c]) [c] = a := by
  unfold Lib.trimSuffix Lib.hasSuffix
  rw [if_pos (List.isSuffixOf_iff_suffix.2 ⟨a, rfl⟩)]
  simp

/-! The words of a line. -/
theorem itoa_no {c : UInt8} {n : Int} (h : c.toNat ≠ 45) (h' : c.toNat < 48 ∨ 57 < c.toNat) : c ∉ Lib.itoa n := by
  intro hc
  rcases itoa_mem c hc with rfl | hd
  · exact h rfl
  · omega
theorem rgs_no {c : UInt8} {n : Int} (h : c.toNat ≠ 45) (h' : c.toNat < 48 ∨ 57 < c.toNat) (h2 : c.toNat ≠ 120) : c ∉ rgs n := by
  unfold rgs
  rw [List.mem_cons, not_or]
  exact ⟨fun e => h2 (by rw [e]; rfl), itoa_no h h'⟩
theorem bh_no (n r : Int) : (44 : UInt8) ∉ bh n r := by
  unfold bh
  rw [List.mem_append, List.mem_cons, List.mem_append, List.mem_singleton]
  rintro (h | h | h | h)
  · exact itoa_no (by decide) (by decide) h
  · cases h
  · exact rgs_no (by decide) (by decide) (by decide) h
  · cases h
theorem parted_bh {n r : Int} (h : I64 n) (h' : I64 r) : listing_parted (bh n r) = some (n, r) := by
  unfold listing_parted strings_TrimSuffix strings_Cut
  have hl := bh_len h h'
  have e : bh n r = (Lib.itoa n ++ 40 :: rgs r) ++ [41] := by simp [bh]
  have e2 : Lib.trimSuffix (bh n r) [41] = Lib.itoa n ++ 40 :: rgs r := by rw [e, trimSuffix_app]
  rw [if_pos (by omega), Option.bind_some, e2, if_pos (by have := itoa_len h; have := rgs_len h'; simp only [List.length_append, List.length_cons]; omega), Option.bind_some,
    cut_sep (itoa_no (by decide) (by decide)), number_itoa h, Option.bind_some, taken_rg h']
  rfl
theorem parted_tot {s : List UInt8} (h : s.length ≤ 2097152) : ∃ p, listing_parted s = some p ∧ I64 p.1 ∧ I64 p.2 := by
  unfold listing_parted strings_TrimSuffix strings_Cut
  have h1 := Lib.trimSuffix_le s [41]
  have h2 := cut_len (Lib.trimSuffix s [41]) [40]
  obtain ⟨n, e1, w1⟩ := number_tot (s := (Lib.cut (Lib.trimSuffix s [41]) [40]).1) (by omega)
  obtain ⟨r, e2, w2⟩ := taken_tot (s := (Lib.cut (Lib.trimSuffix s [41]) [40]).2.1) (by omega)
  refine ⟨(n, r), ?_, w1, w2⟩
  rw [if_pos (by omega), Option.bind_some, if_pos (by omega), Option.bind_some, e1, Option.bind_some, e2]
  rfl
theorem at_tot {l : List (List UInt8)} {N : Nat} (h : ∀ x ∈ l, x.length ≤ N) (k : Nat) : ∃ x, listing_at l (k : Int) = some x ∧ x.length ≤ N := by
  unfold listing_at
  by_cases hk : k < l.length
  · rw [c0 (df (by omega)), idx_get hk]
    exact ⟨_, rfl, h _ (List.getElem_mem hk)⟩
  · rw [c1 (dt (by omega))]
    exact ⟨_, rfl, by simp⟩
theorem op_name {o : Int} (h : 1 ≤ o ∧ o ≤ 45) : listing_op (nameOf o) = some o :=
  fin46 (P := fun o => 1 ≤ o → listing_op (nameOf o) = some o) (by decide +kernel) (by omega) h.2 h.1
theorem op_tot (s : List UInt8) : ∃ o, listing_op s = some o ∧ 0 ≤ o ∧ o ≤ 45 := by
  unfold listing_op
  obtain ⟨z, h1, h2⟩ := loop_some (n := NN) (s := (1 : Int)) (body := fun (x1 : Int) => (bif decide (x1 ≤ 45) then ((inst_Name x1).bind fun y1 => bif decide (y1 = s) then (some (Lp.ret x1)) else (some (Lp.go (IntKind.wrap .i64 (x1 + 1))))) else (some (Lp.brk x1)) : Option (Lp (Int) (Int))))
    (fun x => 1 ≤ x ∧ x ≤ 46) (fun x => (46 - x).toNat) (fun o => (∃ x, o = .brk x) ∨ ∃ x, o = .ret x ∧ 0 ≤ x ∧ x ≤ 45) (by omega) (NN_big (by decide)) (by
      intro x hx
      by_cases h : x ≤ 45
      · rw [c1 (dt h), Name_eq, Option.bind_some]
        cases decide (nameOf x = s) with
        | true => exact ⟨_, rfl, .inr ⟨x, rfl, by omega, by omega⟩⟩
        | false =>
          refine ⟨_, rfl, ?_, ?_⟩
          · rw [w64 (by omega)]; omega
          · rw [w64 (by omega)]; omega
      · rw [c0 (df h)]
        exact ⟨_, rfl, .inl ⟨x, rfl⟩⟩)
  rw [h1]
  rcases h2 with ⟨x, rfl⟩ | ⟨x, rfl, h2⟩
  · exact ⟨0, rfl, by omega, by omega⟩
  · exact ⟨x, rfl, h2⟩

/-! What is read. -/
def rdS (x : GInst) (s : List UInt8) : GInst × Int := bif rightB x && decide (lineS x = s) then (x, 0) else (⟨0, 0, 0, 0, 0⟩, 3)
theorem rd_end {x : GInst} {s : List UInt8} (h : WfI x) : ((listing_Line x).bind fun y36 => bif y36.2 != 0 then (some ((⟨0, 0, 0, 0, 0⟩ : GInst), (3 : Int))) else (bif !(decide (y36.1 = s)) then (some ((⟨0, 0, 0, 0, 0⟩ : GInst), (3 : Int))) else (some (x, (0 : Int))))) = some (rdS x s) := by
  rw [Line_eq h, Option.bind_some]
  unfold rdS
  cases rightB x with
  | false => rfl
  | true =>
    rw [Bool.true_and, cond_true]
    cases decide (lineS x = s) <;> rfl
theorem zero_wf {o : Int} : I64 0 := by unfold I64; omega
theorem Read_tot {s : List UInt8} (h : s.length ≤ 2097152) : ∃ x, WfI x ∧ listing_Read s = some (rdS x s) := by
  unfold listing_Read strings_Cut strings_Split strings_genSplit
  have hc := cut_len s [32]
  generalize hcs : Lib.cut s [32] = cs at hc
  have hl := splitK_len [44, 32] 0 (Lib.count cs.2.1 [44, 32]) cs.2.1
  obtain ⟨o, ho, ho1, ho2⟩ := op_tot cs.1
  rw [c0 (df (by omega)), if_pos (by omega), Option.bind_some, if_pos ⟨by omega, by simp, by omega, by omega, rfl⟩]
  simp only [Option.bind_some, Int.toNat_zero, ho, Form_eq, lies_eq]
  generalize Lib.splitK [44, 32] 0 (Lib.count cs.2.1 [44, 32]) cs.2.1 = l at hl ⊢
  have hl' : ∀ x ∈ l, x.length ≤ 2097152 := fun x hx => by have := hl x hx; omega
  obtain ⟨a0, e0, w0⟩ := at_tot hl' 0
  obtain ⟨a1, e1, w1⟩ := at_tot hl' 1
  obtain ⟨a2, e2, w2⟩ := at_tot hl' 2
  obtain ⟨t0, f0, v0⟩ := taken_tot w0
  obtain ⟨t1, f1, v1⟩ := taken_tot w1
  obtain ⟨t2, f2, v2⟩ := taken_tot w2
  obtain ⟨n1, g1, u1⟩ := number_tot w1
  obtain ⟨n2, g2, u2⟩ := number_tot w2
  obtain ⟨p1, k1, q1, q2⟩ := parted_tot w1
  have z : I64 0 := by unfold I64; omega
  rw [show ((0 : Nat) : Int) = 0 from rfl] at e0
  rw [show ((1 : Nat) : Int) = 1 from rfl] at e1
  rw [show ((2 : Nat) : Int) = 2 from rfl] at e2
  simp only [e0, e1, e2, f0, f1, f2, g1, g2, k1, Option.bind_some]
  unfold jn
  cases formOf o == 82 with
  | true => exact ⟨⟨o, t0, t1, t2, 0⟩, ⟨v0, v1, v2, z⟩, rd_end ⟨v0, v1, v2, z⟩⟩
  | false =>
    simp only [cond_false]
    cases formOf o == 85 with
    | true => exact ⟨⟨o, t0, 0, 0, n1⟩, ⟨v0, z, z, u1⟩, rd_end ⟨v0, z, z, u1⟩⟩
    | false =>
      cases formOf o == 74 with
      | true => exact ⟨⟨o, t0, 0, 0, n1⟩, ⟨v0, z, z, u1⟩, rd_end ⟨v0, z, z, u1⟩⟩
      | false =>
        simp only [cond_false]
        cases formOf o == 66 with
        | true => exact ⟨⟨o, 0, t0, t1, n2⟩, ⟨z, v0, v1, u2⟩, rd_end ⟨z, v0, v1, u2⟩⟩
        | false =>
          simp only [cond_false]
          cases formOf o == 83 with
          | true => exact ⟨⟨o, 0, p1.2, t0, p1.1⟩, ⟨z, q2, v0, q1⟩, rd_end ⟨z, q2, v0, q1⟩⟩
          | false =>
            simp only [cond_false]
            cases liesB o with
            | true => exact ⟨⟨o, t0, p1.2, 0, p1.1⟩, ⟨v0, q2, z, q1⟩, rd_end ⟨v0, q2, z, q1⟩⟩
            | false => exact ⟨⟨o, t0, t1, 0, n2⟩, ⟨v0, v1, z, u2⟩, rd_end ⟨v0, v1, z, u2⟩⟩
theorem ops_no (i : GInst) : ∀ y ∈ ops i, (44 : UInt8) ∉ y := by
  have hr : ∀ n, (44 : UInt8) ∉ rgs n := fun n => rgs_no (by decide) (by decide) (by decide)
  have hi : ∀ n, (44 : UInt8) ∉ Lib.itoa n := fun n => itoa_no (by decide) (by decide)
  unfold ops
  repeat' split
  all_goals
    intro y hy
    simp only [List.mem_cons, List.mem_nil_iff, or_false] at hy
    rcases hy with rfl | rfl | rfl
    all_goals first | exact hr _ | exact hi _ | exact bh_no _ _
theorem ops_ne (i : GInst) : ∃ x r, ops i = x :: r := by
  unfold ops
  repeat' split
  all_goals exact ⟨_, _, rfl⟩
theorem rd_own {i : GInst} (h : rightB i = true) : rdS i (lineS i) = (i, 0) := by
  unfold rdS
  rw [h, dt rfl]
  rfl
/-- The line of an instruction is read. -/
theorem Read_line {i : GInst} (h : rightB i = true) : listing_Read (lineS i) = some (i, 0) := by
  obtain ⟨hf, ho, h1, h2, h3, h4, r1, r2, r3, r4⟩ := right_b h
  have hw := right_wf h
  have hlen := lineS_len hw
  have hc : Lib.cut (lineS i) [32] = (nameOf i.Op, Lib.join (ops i) [44, 32], true) := cut_sep (fun hm => by have := name_low _ _ hm; revert this; decide)
  have hol := ops_len hw
  obtain ⟨x, r, hx⟩ := ops_ne i
  have hs := split_join r x (fun y hy => ops_no i y (by rw [hx]; exact hy))
  rw [← hx] at hs
  unfold listing_Read strings_Cut strings_Split strings_genSplit
  rw [c0 (df (by omega)), if_pos (by omega), Option.bind_some, hc]
  rw [if_pos ⟨by simp only; omega, by simp, by omega, by omega, rfl⟩]
  simp only [Option.bind_some, Int.toNat_zero, op_name ho, Form_eq, lies_eq, hs]
  unfold jn ops
  have hreg : ∀ {n : Int}, regB n false = true → n = 0 := fun h => by simpa [regB] using h
  have tk := @taken_rg
  have nm := @number_itoa
  have pt := parted_bh hw.n hw.a
  obtain ⟨o, d, a, b, n⟩ := i
  simp only at *
  have at0 : ∀ (x : List UInt8) (l : List (List UInt8)), listing_at (x :: l) 0 = some x := fun x l => by unfold listing_at; rw [c0 (df (by rw [List.length_cons]; omega))]; rfl
  have at1 : ∀ (x y : List UInt8) (l : List (List UInt8)), listing_at (x :: y :: l) 1 = some y := fun x y l => by unfold listing_at; rw [c0 (df (by simp only [List.length_cons]; omega))]; rfl
  have at2 : ∀ (x y z : List UInt8) (l : List (List UInt8)), listing_at (x :: y :: z :: l) 2 = some z := fun x y z l => by unfold listing_at; rw [c0 (df (by simp only [List.length_cons]; omega))]; rfl
  rcases forms o with e | e | e | e | e | e | e | e
  · exact absurd e hf
  all_goals
    rw [e] at r1 r2 r3 r4 ⊢
    simp (config := { decide := true }) only [if_true, if_false, Int.reduceBEq, cond_true, cond_false, or_true, true_or, or_self, Int.reduceEq, at0, at1, at2, Option.bind_some, taken_rg hw.d, taken_rg hw.a, taken_rg hw.b, number_itoa hw.n, pt]
    simp (config := { decide := true }) only [hasD, has1, has2] at r1 r2 r3
    simp (config := { decide := true }) only [immB, ref02_room] at r4
  · have : n = 0 := by simpa using r4
    subst this
    exact (rd_end hw).trans (by rw [rd_own h])
  · have := hreg r2
    have := hreg r3
    subst a b
    exact (rd_end hw).trans (by rw [rd_own h])
  · have := hreg r2
    have := hreg r3
    subst a b
    exact (rd_end hw).trans (by rw [rd_own h])
  · have := hreg r1
    subst d
    exact (rd_end hw).trans (by rw [rd_own h])
  · have := hreg r1
    subst d
    exact (rd_end hw).trans (by rw [rd_own h])
  all_goals
    have := hreg r3
    subst b
    cases liesB o with
    | true =>
      simp (config := { decide := true }) only [cond_true, if_true, at0, at1, at2, Option.bind_some, taken_rg hw.d, pt]
      exact (rd_end hw).trans (by rw [rd_own h])
    | false =>
      simp (config := { decide := true }) only [cond_false, Bool.false_eq_true, if_false, at0, at1, at2, Option.bind_some, taken_rg hw.d, taken_rg hw.a, number_itoa hw.n]
      exact (rd_end hw).trans (by rw [rd_own h])

/-- The law of lines. -/
theorem Lines_law (i : GInst) (h0 : I64 i.Op) (hw : WfI i) : law06_ListingLines i = some true := by
  unfold law06_ListingLines
  rw [Line_eq hw, Option.bind_some, rRight_eq, Option.bind_some]
  cases hr : rightB i with
  | false =>
    rw [awake_eq]
    rfl
  | true =>
    simp only [Bool.not_true, cond_false, cond_true]
    rw [Read_line hr, Option.bind_some, awake_eq, Option.bind_some, rLine_eq hr]
    simp
end Go.Proofs.YtcmncppbonaaeaaGreatDoor
