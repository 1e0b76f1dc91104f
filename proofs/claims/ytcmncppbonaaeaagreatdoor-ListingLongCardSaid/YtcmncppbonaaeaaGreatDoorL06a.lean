/- Plain laws on the lines of instructions: how they are written, and read back. No program is in sight here. -/
import Derived.Test.YtcmncppbonaaeaaGreatDoorPure
import Derived.Test.YtcmncppbonaaeaaGreatDoorLoop
import Derived.Test.YtcmncppbonaaeaaGreatDoorM
import Derived.Lib.AtoiAllCases
import Derived.Lib.CountLaws
import Derived.Lib.SplitLaws
set_option linter.unusedVariables false
namespace Go.Proofs.YtcmncppbonaaeaaGreatDoor

theorem awake_eq : law06_awake = some true := by decide +kernel

/-! Numerals. -/
theorem parse_app : ∀ (l : List UInt8) (acc u : Nat) (c : UInt8), Lib.parseUint10 acc l = .ok u → 48 ≤ c.toNat → c.toNat ≤ 57 → u * 10 + (c.toNat - 48) < 18446744073709551616 → Lib.parseUint10 acc (l ++ [c]) = .ok (u * 10 + (c.toNat - 48))
  | [], acc, u, c, h, h1, h2, h3 => by
    simp only [Lib.parseUint10] at h
    injection h with h
    subst h
    simp only [List.nil_append, Lib.parseUint10]
    rw [if_pos ⟨h1, h2⟩, if_neg (by omega), if_neg (by omega)]
  | d :: l, acc, u, c, h, h1, h2, h3 => by
    simp only [List.cons_append, Lib.parseUint10] at h ⊢
    split at h
    · rename_i h0
      rw [if_pos h0]
      split at h
      · cases h
      · rename_i h4
        rw [if_neg h4]
        split at h
        · cases h
        · rename_i h5
          rw [if_neg h5]
          exact parse_app l _ u c h h1 h2 h3
    · cases h
theorem dig {n : Nat} (h : n < 10) : (UInt8.ofNat (48 + n)).toNat = 48 + n := by rw [UInt8.toNat_ofNat']; omega
theorem parse_dec (u : Nat) : u < 18446744073709551616 → Lib.parseUint10 0 (Lib.decDigits u) = .ok u := by
  induction u using Nat.strongRecOn with
  | ind u ih =>
    intro hu
    rw [Lib.decDigits]
    split
    · rename_i h
      have e := dig h
      have := parse_app [] 0 0 (UInt8.ofNat (48 + u)) rfl (by omega) (by omega) (by omega)
      rw [List.nil_append] at this
      rw [this]
      congr 1
      omega
    · rename_i h
      have e := dig (show u % 10 < 10 by omega)
      rw [parse_app _ 0 (u / 10) _ (ih (u / 10) (by omega) (by omega)) (by omega) (by omega) (by omega)]
      congr 1
      omega
/-- Every digit is one. -/
theorem dec_digits (u : Nat) : ∀ c ∈ Lib.decDigits u, 48 ≤ c.toNat ∧ c.toNat ≤ 57 := by
  induction u using Nat.strongRecOn with
  | ind u ih =>
    rw [Lib.decDigits]
    split
    · rename_i h
      intro c hc
      rw [List.mem_singleton.1 hc, dig h]
      omega
    · rename_i h
      intro c hc
      rcases List.mem_append.1 hc with hc | hc
      · exact ih (u / 10) (by omega) c hc
      · rw [List.mem_singleton.1 hc, dig (by omega)]
        omega
theorem dec_len (k : Nat) : ∀ u, u < 10 ^ (k + 1) → (Lib.decDigits u).length ≤ k + 1 := by
  induction k with
  | zero =>
    intro u hu
    rw [Lib.decDigits_one (by omega)]
    simp
  | succ k ih =>
    intro u hu
    rw [Lib.decDigits]
    split
    · simp
    · have := ih (u / 10) (by rw [Nat.pow_succ] at hu; omega)
      rw [List.length_append]
      simp only [List.length_cons, List.length_nil]
      omega
theorem dec_ne (u : Nat) : Lib.decDigits u ≠ [] := by
  rw [Lib.decDigits]
  split <;> simp
/-- A number that an int holds. -/
def I64 (n : Int) : Prop := -9223372036854775808 ≤ n ∧ n ≤ 9223372036854775807
theorem itoa_len {n : Int} (h : I64 n) : (Lib.itoa n).length ≤ 20 := by
  obtain ⟨h1, h2⟩ := h
  unfold Lib.itoa
  split
  · have := dec_len 18 n.natAbs (by omega)
    simp only [List.length_cons]
    omega
  · have := dec_len 18 n.toNat (by omega)
    omega
theorem itoa_mem {n : Int} : ∀ c ∈ Lib.itoa n, c = 45 ∨ (48 ≤ c.toNat ∧ c.toNat ≤ 57) := by
  unfold Lib.itoa
  split
  · intro c hc
    rcases List.mem_cons.1 hc with rfl | hc
    · exact .inl rfl
    · exact .inr (dec_digits _ c hc)
  · intro c hc
    exact .inr (dec_digits _ c hc)
theorem atoi_itoa {n : Int} (h : I64 n) : Lib.atoiAll (Lib.itoa n) = .ok n := by
  obtain ⟨h1, h2⟩ := h
  unfold Lib.itoa
  split
  · rename_i h0
    rw [Lib.atoiAll_minus]
    unfold Lib.parseMag
    rw [if_neg (dec_ne _), parse_dec _ (by omega)]
    unfold Lib.signed
    simp only []
    rw [if_neg (by omega)]
    congr 1
    omega
  · rename_i h0
    have hp := parse_dec n.toNat (by omega)
    have hd := dec_digits n.toNat
    cases hx : Lib.decDigits n.toNat with
    | nil => exact absurd hx (dec_ne _)
    | cons c r =>
      rw [hx] at hp hd
      have := hd c (List.mem_cons_self ..)
      rw [Lib.atoiAll_plain c r (by omega) (by omega)]
      unfold Lib.parseMag
      rw [if_neg (by simp), hp]
      unfold Lib.signless
      simp only []
      rw [if_neg (by omega)]
      congr 1
      omega
theorem Itoa_eq {n : Int} (h : I64 n) : strconv_Itoa n = some (Lib.itoa n) := by
  unfold strconv_Itoa
  exact if_pos h
theorem number_itoa {n : Int} (h : I64 n) : listing_number (Lib.itoa n) = some n := by
  unfold listing_number strconv_Atoi
  have := itoa_len h
  rw [if_pos (by omega), atoi_itoa h]
  rfl
/-- What is read as a number is one that an int holds. -/
theorem number_tot {s : List UInt8} (h : s.length ≤ 2097152) : ∃ n, listing_number s = some n ∧ I64 n := by
  unfold listing_number strconv_Atoi
  rw [if_pos (by omega)]
  rcases hx : Lib.atoiAll s with v | _ | _
  · exact ⟨v, rfl, Lib.atoiAll_bounds hx⟩
  · exact ⟨0, rfl, by unfold I64; omega⟩
  · exact ⟨0, rfl, by unfold I64; omega⟩
theorem taken_tot {s : List UInt8} (h : s.length ≤ 2097152) : ∃ n, listing_taken s = some n ∧ I64 n := by
  unfold listing_taken strings_TrimPrefix
  obtain ⟨n, h1, h2⟩ := number_tot (s := Lib.trimPrefix s [120]) (by have := Lib.trimPrefix_le s [120]; omega)
  refine ⟨n, ?_, h2⟩
  rw [Option.bind_some, h1]
  rfl
/-- A register. -/
def rgs (n : Int) : List UInt8 := 120 :: Lib.itoa n
theorem taken_rg {n : Int} (h : I64 n) : listing_taken (rgs n) = some n := by
  unfold listing_taken strings_TrimPrefix rgs
  rw [Option.bind_some, show Lib.trimPrefix (120 :: Lib.itoa n) [120] = Lib.itoa n by simp [Lib.trimPrefix, Lib.hasPrefix], number_itoa h]
  rfl
theorem rgs_len {n : Int} (h : I64 n) : (rgs n).length ≤ 21 := by
  have := itoa_len h
  simp only [rgs, List.length_cons]
  omega
theorem register_eq {n : Int} (h : I64 n) : listing_register n = some (rgs n) := by
  unfold listing_register
  have := itoa_len h
  rw [Itoa_eq h, Option.bind_some, room_ok (by simp only [List.length_cons, List.length_nil]; omega)]
  rfl
/-- What lies behind a register. -/
def bh (n r : Int) : List UInt8 := Lib.itoa n ++ 40 :: (rgs r ++ [41])
theorem bh_len {n r : Int} (h : I64 n) (h' : I64 r) : (bh n r).length ≤ 43 := by
  have := itoa_len h
  have := rgs_len h'
  simp only [bh, List.length_cons, List.length_append, List.length_nil]
  omega
theorem behind_eq {n r : Int} (h : I64 n) (h' : I64 r) : listing_behind n r = some (bh n r) := by
  unfold listing_behind
  have := itoa_len h
  have := rgs_len h'
  rw [Itoa_eq h, Option.bind_some, room_ok (by simp only [List.length_cons, List.length_nil]; omega), Option.bind_some, register_eq h', Option.bind_some,
    room_ok (by simp only [List.length_cons, List.length_append, List.length_nil]; omega), Option.bind_some, room_ok (by simp only [List.length_cons, List.length_append, List.length_nil]; omega), Option.bind_some]
  simp [bh]

/-! Forms and names. -/
def formL : List Int := [0, 85, 85, 74, 73, 66, 66, 66, 66, 66, 66, 73, 73, 73, 73, 73, 83, 83, 83, 73, 73, 73, 73, 73, 73, 72, 72, 72, 82, 82, 82, 82, 82, 82, 82, 82, 82, 82, 82, 82, 82, 82, 82, 82, 82, 82]
def nameL : List (List UInt8) := (inst_table.getD []).map (·.name)
def formOf (o : Int) : Int := if 0 ≤ o then formL.getD o.toNat 0 else 0
def nameOf (o : Int) : List UInt8 := if 0 ≤ o then nameL.getD o.toNat [] else []
theorem fin46 {P : Int → Prop} (h : ∀ k : _root_.Fin 46, P (k.val : Int)) {o : Int} (h0 : 0 ≤ o) (h1 : o ≤ 45) : P o := by
  have := h ⟨o.toNat, by omega⟩
  rwa [show ((⟨o.toNat, by omega⟩ : _root_.Fin 46).val : Int) = o by simp; omega] at this
theorem formOf_out {o : Int} (h : o < 0 ∨ 46 ≤ o) : formOf o = 0 := by
  unfold formOf
  split
  · rw [List.getD_eq_getElem?_getD, List.getElem?_eq_none (by simp [formL]; omega)]; rfl
  · rfl
theorem nameOf_out {o : Int} (h : o < 0 ∨ 46 ≤ o) : nameOf o = [] := by
  unfold nameOf
  split
  · rw [List.getD_eq_getElem?_getD, List.getElem?_eq_none (by have : nameL.length = 46 := by decide +kernel
                                                              omega)]; rfl
  · rfl
theorem of_out {o : Int} (h : o < 0 ∨ 46 ≤ o) : inst_of o = some ⟨[], 0, 0, 0, 0⟩ := by
  unfold inst_of
  rcases h with h | h
  · rw [c1 (dt h)]
  · rw [c0 (df (by omega)), c1 (dt h)]
theorem Form_eq (o : Int) : inst_Form o = some (formOf o) := by
  by_cases h : o < 0 ∨ 46 ≤ o
  · unfold inst_Form; rw [of_out h, formOf_out h]; rfl
  · exact fin46 (P := fun o => inst_Form o = some (formOf o)) (by decide +kernel) (by omega) (by omega)
theorem Name_eq (o : Int) : inst_Name o = some (nameOf o) := by
  by_cases h : o < 0 ∨ 46 ≤ o
  · unfold inst_Name; rw [of_out h, nameOf_out h]; rfl
  · exact fin46 (P := fun o => inst_Name o = some (nameOf o)) (by decide +kernel) (by omega) (by omega)
theorem rForm_eq (o : Int) : ref02_Form o = some (formOf o) := by
  by_cases h : o < 0 ∨ 46 ≤ o
  · unfold ref02_Form; rw [formOf_out h]
    rcases h with h | h
    · rw [c1 (dt (by omega))]
    · rw [c0 (df (by omega)), c1 (dt (by omega))]
  · exact fin46 (P := fun o => ref02_Form o = some (formOf o)) (by decide +kernel) (by omega) (by omega)
theorem rName_eq (o : Int) : ref02_Name o = some (nameOf o) := by
  by_cases h : o < 0 ∨ 46 ≤ o
  · unfold ref02_Name; rw [nameOf_out h]
    rcases h with h | h
    · rw [c1 (dt (by omega))]
    · rw [c0 (df (by omega)), c1 (dt (by omega))]
  · exact fin46 (P := fun o => ref02_Name o = some (nameOf o)) (by decide +kernel) (by omega) (by omega)
theorem forms (o : Int) : formOf o = 0 ∨ formOf o = 82 ∨ formOf o = 85 ∨ formOf o = 74 ∨ formOf o = 66 ∨ formOf o = 83 ∨ formOf o = 73 ∨ formOf o = 72 := by
  by_cases h : o < 0 ∨ 46 ≤ o
  · exact .inl (formOf_out h)
  · exact fin46 (P := fun o => formOf o = 0 ∨ formOf o = 82 ∨ formOf o = 85 ∨ formOf o = 74 ∨ formOf o = 66 ∨ formOf o = 83 ∨ formOf o = 73 ∨ formOf o = 72) (by decide +kernel) (by omega) (by omega)
theorem op_in {o : Int} (h : formOf o ≠ 0) : 1 ≤ o ∧ o ≤ 45 := by
  by_cases h' : o < 0 ∨ 46 ≤ o
  · exact absurd (formOf_out h') h
  · exact fin46 (P := fun o => formOf o ≠ 0 → 1 ≤ o ∧ o ≤ 45) (by decide +kernel) (by omega) (by omega) h

/-! What is an instruction. -/
def regB (n : Int) (b : Bool) : Bool := bif b then decide (0 ≤ n) && decide (n ≤ 31) else n == 0
def hasD (f : Int) : Bool := f != 83 && f != 66
def has1 (f : Int) : Bool := f != 85 && f != 74
def has2 (f : Int) : Bool := f == 83 || f == 66 || f == 82
def immB (f n : Int) : Bool := (ref02_room f n).getD false
def rightB (i : GInst) : Bool := (formOf i.Op != 0) && regB i.Rd (hasD (formOf i.Op)) && regB i.Rs1 (has1 (formOf i.Op)) && regB i.Rs2 (has2 (formOf i.Op)) && immB (formOf i.Op) i.Imm
theorem rreg_eq (n : Int) (b : Bool) : ref02_reg n b = some (regB n b) := by
  unfold ref02_reg regB
  cases b with
  | false => rfl
  | true =>
    simp only [Bool.not_true, cond_false, cond_true]
    cases decide (0 ≤ n) <;> rfl
theorem reg_eq (n : Int) (b : Bool) : inst_register n b = some (regB n b) := by
  unfold inst_register regB
  cases b with
  | false => cases n == 0 <;> rfl
  | true =>
    by_cases h : n = 0
    · subst h; rfl
    · rw [c0 (by simpa using h)]
      simp only [cond_true]
      by_cases h1 : 0 < n
      · rw [c1 (dt h1), dt (show (0 : Int) ≤ n by omega), Bool.true_and]
        congr 1
        exact decide_eq_decide.2 ⟨fun h => by omega, fun h => by omega⟩
      · rw [c0 (df h1), df (show ¬ (0 : Int) ≤ n by omega), Bool.false_and]
theorem rhas1 (f : Int) : ref02_has f 1 = some (hasD f) := by
  unfold ref02_has hasD
  simp only [Int.reduceBEq, cond_true]
  cases f != 83 <;> rfl
theorem rhas2 (f : Int) : ref02_has f 2 = some (has1 f) := by
  unfold ref02_has has1
  simp only [Int.reduceBEq, cond_true, cond_false]
  cases f != 85 <;> rfl
theorem rhas3 (f : Int) : ref02_has f 3 = some (has2 f) := by
  unfold ref02_has has2
  simp only [Int.reduceBEq, cond_false]
  cases f == 83 <;> cases f == 66 <;> rfl
theorem rroom_eq (f n : Int) : ref02_room f n = some (immB f n) := by
  have : ∃ b, ref02_room f n = some b := by
    unfold ref02_room
    have ex : ∀ (c : Bool) (x y : Option Bool), (∃ b, x = some b) → (∃ b, y = some b) → ∃ b, (bif c then x else y) = some b := by
      rintro (_ | _) x y h1 h2
      · exact h2
      · exact h1
    repeat' first | exact ⟨_, rfl⟩ | refine ex _ _ _ ?_ ?_
  obtain ⟨b, hb⟩ := this
  unfold immB
  rw [hb]
  rfl
theorem rRight_eq (i : GInst) : ref02_Right i = some (rightB i) := by
  unfold ref02_Right rightB
  rw [rForm_eq, Option.bind_some]
  cases formOf i.Op != 0 with
  | false => rfl
  | true =>
    simp only [cond_true, rhas1, rhas2, rhas3, rreg_eq, rroom_eq, Option.bind_some, Bool.true_and]
    cases regB i.Rd (hasD (formOf i.Op)) with
    | false => rfl
    | true =>
      cases regB i.Rs1 (has1 (formOf i.Op)) with
      | false => rfl
      | true => cases regB i.Rs2 (has2 (formOf i.Op)) <;> rfl
theorem needs_eq (o : Int) (h : formOf o ≠ 0) : inst_needs (formOf o) = some (hasD (formOf o), has1 (formOf o), has2 (formOf o), formOf o != 82) := by
  rcases forms o with e | e | e | e | e | e | e | e
  · exact absurd e h
  all_goals rw [e]; rfl
theorem cp {a b : Prop} [Decidable a] [Decidable b] (h : a ↔ b) : decide a = decide b := decide_eq_decide.2 h
theorem tm0 (n k : Int) : (Int.tmod n k == 0) = decide (n % k = 0) := by
  have : Int.tmod n k = 0 ↔ n % k = 0 := by rw [← Int.dvd_iff_tmod_eq_zero, Int.dvd_iff_emod_eq_zero]
  rw [← decide_eq_decide.2 this]
  rfl
theorem bb (a b c : Prop) [Decidable a] [Decidable b] [Decidable c] : (bif decide a then bif decide b then some (decide c) else some false else some false : Option Bool) = some (decide (a ∧ b ∧ c)) := by
  by_cases h1 : a <;> by_cases h2 : b <;> by_cases h3 : c <;> simp [h1, h2, h3]
theorem bb2 (a b : Prop) [Decidable a] [Decidable b] : (bif decide a then some (decide b) else some false : Option Bool) = some (decide (a ∧ b)) := by
  by_cases h1 : a <;> by_cases h2 : b <;> simp [h1, h2]
theorem reaches_eq (o n : Int) (h : formOf o ≠ 0) : inst_reaches (formOf o) n = some (immB (formOf o) n) := by
  rw [← rroom_eq]
  rcases forms o with e | e | e | e | e | e | e | e
  · exact absurd e h
  all_goals
    rw [e]
    unfold inst_reaches ref02_room
    simp only [Int.reduceBEq, cond_true, cond_false, jn, tm0, bb, bb2]
  all_goals
    congr 1
    exact cp (by omega)
theorem Right_eq (i : GInst) : inst_Right i = some (rightB i) := by
  unfold inst_Right rightB
  rw [Form_eq, Option.bind_some]
  by_cases h : formOf i.Op = 0
  · rw [h]; rfl
  · rw [c0 (by simpa using h), needs_eq _ h, show (formOf i.Op != 0) = true by simpa using h]
    simp only [reg_eq, reaches_eq _ _ h, Option.bind_some, Bool.true_and]
    cases regB i.Rd (hasD (formOf i.Op)) with
    | false => rfl
    | true =>
      cases regB i.Rs1 (has1 (formOf i.Op)) with
      | false => rfl
      | true => cases regB i.Rs2 (has2 (formOf i.Op)) <;> rfl
end Go.Proofs.YtcmncppbonaaeaaGreatDoor
