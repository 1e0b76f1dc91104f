/- Plain laws on the lines of instructions: what is read of a line. No program is in sight here. -/
import Derived.Test.YtcmncppbonaaeaaGreatDoorL06a
set_option linter.unusedVariables false
namespace Go.Proofs.YtcmncppbonaaeaaGreatDoor

/-! The line of an instruction. -/
def liesB (o : Int) : Bool := o == 4 || (decide (11 ≤ o) && decide (o ≤ 18))
def ops (i : GInst) : List (List UInt8) :=
  if formOf i.Op = 82 then [rgs i.Rd, rgs i.Rs1, rgs i.Rs2] else if formOf i.Op = 85 ∨ formOf i.Op = 74 then [rgs i.Rd, Lib.itoa i.Imm] else if formOf i.Op = 66 then [rgs i.Rs1, rgs i.Rs2, Lib.itoa i.Imm]
  else if formOf i.Op = 83 then [rgs i.Rs2, bh i.Imm i.Rs1] else if liesB i.Op = true then [rgs i.Rd, bh i.Imm i.Rs1] else [rgs i.Rd, rgs i.Rs1, Lib.itoa i.Imm]
def lineS (i : GInst) : List UInt8 := nameOf i.Op ++ 32 :: Lib.join (ops i) [44, 32]
structure WfI (i : GInst) : Prop where
  d : I64 i.Rd
  a : I64 i.Rs1
  b : I64 i.Rs2
  n : I64 i.Imm
theorem lies_eq (o : Int) : listing_lies o = some (liesB o) := by
  unfold listing_lies liesB
  cases o == 4 with
  | true => rfl
  | false => cases decide (11 ≤ o) <;> rfl
theorem j2 (a b : List UInt8) : Lib.join [a, b] [44, 32] = a ++ 44 :: 32 :: b := by simp [Lib.join_cons, Lib.joinTail]
theorem j3 (a b c : List UInt8) : Lib.join [a, b, c] [44, 32] = a ++ 44 :: 32 :: (b ++ 44 :: 32 :: c) := by simp [Lib.join_cons, Lib.joinTail]
theorem name_len (o : Int) : (nameOf o).length ≤ 6 := by
  by_cases h : o < 0 ∨ 46 ≤ o
  · rw [nameOf_out h]; simp
  · exact fin46 (P := fun o => (nameOf o).length ≤ 6) (by decide +kernel) (by omega) (by omega)
theorem name_low (o : Int) : ∀ c ∈ nameOf o, 97 ≤ c.toNat := by
  by_cases h : o < 0 ∨ 46 ≤ o
  · rw [nameOf_out h]; simp
  · exact fin46 (P := fun o => ∀ c ∈ nameOf o, 97 ≤ c.toNat) (by decide +kernel) (by omega) (by omega)
theorem joined_eq {p : List UInt8} {l : List (List UInt8)} (hp : p.length ≤ 6) (h1 : l.length ≤ 3) (h2 : (Lib.join l [44, 32]).length ≤ 100) : listing_joined p l = some (p ++ 32 :: Lib.join l [44, 32]) := by
  unfold listing_joined strings_Join
  rw [room_ok (by simp only [List.length_cons, List.length_nil]; omega), Option.bind_some, if_pos ⟨by omega, by omega⟩, Option.bind_some, room_ok (by simp only [List.length_append, List.length_cons, List.length_nil]; omega), Option.bind_some]
  simp
theorem ops_len {i : GInst} (h : WfI i) : (ops i).length ≤ 3 ∧ (Lib.join (ops i) [44, 32]).length ≤ 100 := by
  have h1 := rgs_len h.d
  have h2 := rgs_len h.a
  have h3 := rgs_len h.b
  have h4 := itoa_len h.n
  have h5 := bh_len h.n h.a
  unfold ops
  repeat' split
  all_goals
    refine ⟨by simp, ?_⟩
    simp only [j2, j3, List.length_append, List.length_cons]
    omega
theorem lineS_len {i : GInst} (h : WfI i) : (lineS i).length ≤ 107 := by
  have := ops_len h
  have := name_len i.Op
  simp only [lineS, List.length_append, List.length_cons]
  omega
theorem Line_eq {i : GInst} (h : WfI i) : listing_Line i = some (bif rightB i then (lineS i, 0) else ([], 1)) := by
  unfold listing_Line
  rw [Right_eq, Option.bind_some]
  cases hr : rightB i with
  | false => rfl
  | true =>
    have hl := ops_len h
    have hn := name_len i.Op
    simp only [Bool.not_true, cond_false, cond_true, Name_eq, Option.bind_some, Itoa_eq h.n, register_eq h.d, register_eq h.a, register_eq h.b, behind_eq h.n h.a, Form_eq, lies_eq, jn]
    unfold lineS ops at *
    have hf : formOf i.Op ≠ 0 := by
      intro e
      simp [rightB, e] at hr
    rcases forms i.Op with e | e | e | e | e | e | e | e
    · exact absurd e hf
    all_goals
      rw [e] at hl ⊢
      simp (config := { decide := true }) only [if_true, if_false, Int.reduceBEq, cond_true, cond_false, or_true, true_or, or_self, Int.reduceEq] at hl ⊢
    all_goals first
      | (rw [joined_eq hn hl.1 hl.2]; rfl)
      | (cases hz : liesB i.Op with
         | true => rw [hz] at hl; simp only [if_true] at hl ⊢; rw [cond_true, joined_eq hn hl.1 hl.2]; rfl
         | false => rw [hz] at hl; simp only [Bool.false_eq_true, if_false] at hl ⊢; rw [cond_false, joined_eq hn hl.1 hl.2]; rfl)
/-- What is right is small. -/
theorem right_b {i : GInst} (h : rightB i = true) : formOf i.Op ≠ 0 ∧ (1 ≤ i.Op ∧ i.Op ≤ 45) ∧ (0 ≤ i.Rd ∧ i.Rd ≤ 31) ∧ (0 ≤ i.Rs1 ∧ i.Rs1 ≤ 31) ∧ (0 ≤ i.Rs2 ∧ i.Rs2 ≤ 31) ∧ (-2147483648 ≤ i.Imm ∧ i.Imm ≤ 2147483647) ∧
    regB i.Rd (hasD (formOf i.Op)) = true ∧ regB i.Rs1 (has1 (formOf i.Op)) = true ∧ regB i.Rs2 (has2 (formOf i.Op)) = true ∧ immB (formOf i.Op) i.Imm = true := by
  unfold rightB at h
  simp only [Bool.and_eq_true] at h
  obtain ⟨⟨⟨⟨h1, h2⟩, h3⟩, h4⟩, h5⟩ := h
  have hr : ∀ (n : Int) (b : Bool), regB n b = true → 0 ≤ n ∧ n ≤ 31 := by
    intro n b hb
    cases b with
    | false =>
      have : n = 0 := by simpa [regB] using hb
      omega
    | true => simpa [regB] using hb
  have hf : formOf i.Op ≠ 0 := by simpa using h1
  refine ⟨hf, op_in hf, hr _ _ h2, hr _ _ h3, hr _ _ h4, ?_, h2, h3, h4, h5⟩
  unfold immB ref02_room at h5
  generalize i.Imm = n at h5 ⊢
  rcases forms i.Op with e | e | e | e | e | e | e | e
  · exact absurd e hf
  all_goals
    rw [e] at h5
    simp only [Int.reduceBEq, cond_true, cond_false, tm0, bb, bb2, Option.getD_some, decide_eq_true_eq, beq_iff_eq] at h5
    omega
theorem right_wf {i : GInst} (h : rightB i = true) : WfI i := by
  obtain ⟨_, _, h1, h2, h3, h4, _⟩ := right_b h
  constructor <;> unfold I64 <;> omega

/-! The reference's numerals and lines. -/
theorem sub10 : ∀ k : _root_.Fin 10, sub ([48, 49, 50, 51, 52, 53, 54, 55, 56, 57] : List UInt8) (k.val : Int) (IntKind.wrap .i64 ((k.val : Int) + 1)) = some [UInt8.ofNat (48 + k.val)] := by decide +kernel
theorem dgt {m : Nat} : sub ([48, 49, 50, 51, 52, 53, 54, 55, 56, 57] : List UInt8) (Int.tmod (m : Int) 10) (IntKind.wrap .i64 (Int.tmod (m : Int) 10 + 1)) = some [UInt8.ofNat (48 + m % 10)] := by
  rw [show Int.tmod (m : Int) 10 = ((m % 10 : Nat) : Int) by rw [Int.tmod_eq_emod_of_nonneg (by omega)]; omega]
  exact sub10 ⟨m % 10, by omega⟩
theorem Num_pos (G : Rec1) (n : Nat) (h : n < 9223372036854775808) : ref06_Num_b G (n : Int) = some (Lib.decDigits n) := by
  unfold ref06_Num_b
  rw [c0 (df (by omega)), dgt, Option.bind_some]
  have hd : ∀ m : Nat, m < 9223372036854775808 → IntKind.wrap .i64 (Int.tdiv (m : Int) 10) = ((m / 10 : Nat) : Int) := by
    intro m hm
    rw [Int.tdiv_eq_ediv_of_nonneg (by omega), w64 (by omega)]
    omega
  rw [hd n h]
  have hlen := dec_len 18 n (by omega)
  refine loop_bind (fun s => ∃ m : Nat, s.2 = (m : Int) ∧ m < 9223372036854775808 ∧ (if m = 0 then s.1 = Lib.decDigits n else Lib.decDigits m ++ s.1 = Lib.decDigits n)) (fun s => s.2.toNat) (fun o => ∃ z, o = .brk (Lib.decDigits n, z)) ?_ (NN_big (by show ((n / 10 : Nat) : Int).toNat < _; omega)) ?_ ?_
  · refine ⟨n / 10, rfl, by omega, ?_⟩
    rw [Lib.decDigits.eq_1 n]
    split
    · rename_i h0
      split
      · rename_i h1
        rw [show n % 10 = n by omega]
      · omega
    · rename_i h0
      rw [dif_neg (by omega)]
  · rintro ⟨x1, x2⟩ ⟨m, hm, hm2, hi⟩
    simp only at hm hi
    subst hm
    simp only []
    by_cases h0 : m = 0
    · rw [c0 (df (by omega))]
      rw [if_pos h0] at hi
      exact ⟨_, rfl, _, by rw [hi]⟩
    · rw [if_neg h0] at hi
      have hl : (Lib.decDigits m).length + x1.length ≤ 19 := by rw [← List.length_append, hi]; exact hlen
      rw [c1 (dt (by omega)), dgt, Option.bind_some, room_ok (by simp only [List.length_cons, List.length_nil]; omega), Option.bind_some, hd m hm2]
      refine ⟨_, rfl, ⟨m / 10, rfl, by omega, ?_⟩, by show ((m / 10 : Nat) : Int).toNat < ((m : Nat) : Int).toNat; omega⟩
      rw [Lib.decDigits.eq_1 m] at hi
      simp only
      split
      · rename_i h1
        rw [dif_pos (by omega)] at hi
        rw [show m % 10 = m by omega]
        exact hi
      · rename_i h1
        rw [dif_neg (by omega), List.append_assoc] at hi
        exact hi
  · rintro o ⟨z, rfl⟩
    rfl
theorem Num_eq {n : Int} (h : -9223372036854775807 ≤ n ∧ n ≤ 9223372036854775807) : ref06_Num n = some (Lib.itoa n) := by
  obtain ⟨m, hm⟩ : ∃ m, NN = m + 2 := ⟨18446744073709551614, by decide +kernel⟩
  unfold ref06_Num
  rw [hm]
  show ref06_Num_b (rec1 (m + 1)) n = _
  by_cases h0 : n < 0
  · unfold ref06_Num_b
    rw [c1 (dt h0), w64 (by omega)]
    show (ref06_Num_b (rec1 m) (0 - n)).bind _ = _
    have hlen := dec_len 18 n.natAbs (by omega)
    rw [show (0 - n) = ((n.natAbs : Nat) : Int) by omega, Num_pos _ _ (by omega), Option.bind_some, room_ok (by simp only [List.length_cons, List.length_nil]; omega), Option.bind_some]
    unfold Lib.itoa
    rw [if_pos h0]
    rfl
  · obtain ⟨k, rfl⟩ : ∃ k : Nat, n = (k : Int) := ⟨n.toNat, by omega⟩
    rw [Num_pos _ _ (by omega)]
    unfold Lib.itoa
    rw [if_neg h0]
    rfl
theorem lies_I {o : Int} (h : formOf o ≠ 83) : liesB o = (o == 4 || (decide (11 ≤ o) && decide (o ≤ 15))) := by
  by_cases h' : o < 0 ∨ 46 ≤ o
  · unfold liesB
    rcases h' with h' | h'
    · rw [df (show ¬ 11 ≤ o by omega)]; simp
    · rw [df (show ¬ o ≤ 18 by omega), df (show ¬ o ≤ 15 by omega)]
  · exact fin46 (P := fun o => formOf o ≠ 83 → liesB o = (o == 4 || (decide (11 ≤ o) && decide (o ≤ 15)))) (by decide +kernel) (by omega) (by omega) h
theorem bifs {A : Type} (a b c : Bool) (x y : A) : (bif a then x else bif b then (bif c then x else y) else y) = bif a || (b && c) then x else y := by
  cases a <;> cases b <;> cases c <;> rfl
set_option maxHeartbeats 1000000 in
theorem rLine_eq {i : GInst} (h : rightB i = true) : ref06_Line i = some (lineS i) := by
  obtain ⟨hf, _, h1, h2, h3, h4, _⟩ := right_b h
  have hw := right_wf h
  have l1 := itoa_len hw.d
  have l2 := itoa_len hw.a
  have l3 := itoa_len hw.b
  have l4 := itoa_len hw.n
  have hn := name_len i.Op
  unfold ref06_Line
  rw [rName_eq, Option.bind_some, Num_eq (by omega), Num_eq (by omega), Num_eq (by omega), Num_eq (by omega), rForm_eq]
  simp (disch := (simp only [List.length_append, List.length_cons, List.length_nil]; omega)) only [room_ok, Option.bind_some]
  rw [bifs, show (i.Op == 4 || (decide (11 ≤ i.Op) && decide (i.Op ≤ 15))) = (i.Op == 4 || (decide (11 ≤ i.Op) && decide (i.Op ≤ 15))) from rfl]
  unfold lineS ops bh rgs
  rcases forms i.Op with e | e | e | e | e | e | e | e
  · exact absurd e hf
  all_goals
    have hz := fun hh => lies_I (o := i.Op) (by rw [e]; exact hh)
    rw [e]
    simp (config := { decide := true }) only [if_true, if_false, Int.reduceBEq, cond_true, cond_false, or_true, true_or, or_self, Int.reduceEq]
  all_goals first
    | (simp only [j2, j3]; simp; done)
    | (rw [hz (by decide)]
       cases (i.Op == 4 || (decide (11 ≤ i.Op) && decide (i.Op ≤ 15))) with
       | true => simp only [cond_true, if_true, j2]; simp
       | false => simp only [cond_false, Bool.false_eq_true, if_false, j3]; simp)
theorem Line2_eq : ref06_Line_2 = ref06_Line := rfl
end Go.Proofs.YtcmncppbonaaeaaGreatDoor
