/- Plain laws: no program is in sight here. -/
import Derived.Test.YtlnamhpmhcgcpaaGreatDoorKPure
import Derived.Test.YtlnamhpmhcgcpaaGreatDoorKLoop
import Derived.Test.YtlnamhpmhcgcpaaGreatDoorKM
set_option linter.unusedVariables false
namespace Go.Proofs.YtlnamhpmhcgcpaaGreatDoor
def formL : List Int := [0, 85, 85, 74, 73, 66, 66, 66, 66, 66, 66, 73, 73, 73, 73, 73, 83, 83, 83, 73, 73, 73, 73, 73, 73, 72, 72, 72, 82, 82, 82, 82, 82, 82, 82, 82, 82, 82, 82, 82, 82, 82, 82, 82, 82, 82]
def formOf (o : Int) : Int := if 0 ≤ o then formL.getD o.toNat 0 else 0
theorem fin46 {P : Int → Prop} (h : ∀ k : _root_.Fin 46, P (k.val : Int)) {o : Int} (h0 : 0 ≤ o) (h1 : o ≤ 45) : P o := by
  have := h ⟨o.toNat, by omega⟩
  rwa [show ((⟨o.toNat, by omega⟩ : _root_.Fin 46).val : Int) = o by simp; omega] at this
theorem formOf_out {o : Int} (h : o < 0 ∨ 46 ≤ o) : formOf o = 0 := by
  unfold formOf
  split
  · rw [List.getD_eq_getElem?_getD, List.getElem?_eq_none (by simp [formL]; omega)]; rfl
  · rfl
theorem rForm_eq (o : Int) : ref02_Form o = some (formOf o) := by
  by_cases h : o < 0 ∨ 46 ≤ o
  · unfold ref02_Form; rw [formOf_out h]
    rcases h with h | h
    · rw [c1 (dt (by omega))]
    · rw [c0 (df (by omega)), c1 (dt (by omega))]
  · exact fin46 (P := fun o => ref02_Form o = some (formOf o)) (by decide +kernel) (by omega) (by omega)
theorem forms (o : Int) : formOf o = 0 ∨ formOf o = 82 ∨ formOf o = 85 ∨ formOf o = 74 ∨ formOf o = 66 ∨ formOf o = 83 ∨ formOf o = 73 ∨ formOf o = 72 := by
  by_cases h : o < 0 ∨ 46 ≤ o
  · exact .inl (formOf_out h)
  · exact fin46 (P := fun o => formOf o = 0 ∨ formOf o = 82 ∨ formOf o = 85 ∨ formOf o = 74 ∨ formOf o = 66 ∨ formOf o = 83 ∨ formOf o = 73 ∨ formOf o = 72) (by decide +kernel) (by omega) (by omega)
def regB (n : Int) (b : Bool) : Bool := bif b then decide (0 ≤ n) && decide (n ≤ 31) else n == 0
def hasD (f : Int) : Bool := f != 83 && f != 66
def has1 (f : Int) : Bool := f != 85 && f != 74
def has2 (f : Int) : Bool := f == 83 || f == 66 || f == 82
def immB (f n : Int) : Bool := (ref02_room f n).getD false
def rightB (i : GInst) : Bool := (formOf i.Op != 0) && regB i.Rd (hasD (formOf i.Op)) && regB i.Rs1 (has1 (formOf i.Op)) && regB i.Rs2 (has2 (formOf i.Op)) && immB (formOf i.Op) i.Imm
theorem rreg_eq (n : Int) (b : Bool) : ref02_reg n b = some (regB n b) := by
  unfold ref02_reg regB
  cases b with
  | false => rfl
  | true =>
    simp only [Bool.not_true, cond_false, cond_true]
    cases decide (0 ≤ n) <;> rfl
theorem rhas1 (f : Int) : ref02_has f 1 = some (hasD f) := by
  unfold ref02_has hasD
  simp only [Int.reduceBEq, cond_true]
  cases f != 83 <;> rfl
theorem rhas2 (f : Int) : ref02_has f 2 = some (has1 f) := by
  unfold ref02_has has1
  simp only [Int.reduceBEq, cond_true, cond_false]
  cases f != 85 <;> rfl
theorem rhas3 (f : Int) : ref02_has f 3 = some (has2 f) := by
  unfold ref02_has has2
  simp only [Int.reduceBEq, cond_false]
  cases f == 83 <;> cases f == 66 <;> rfl
theorem rroom_eq (f n : Int) : ref02_room f n = some (immB f n) := by
  have : ∃ b, ref02_room f n = some b := by
    unfold ref02_room
    have ex : ∀ (c : Bool) (x y : Option Bool), (∃ b, x = some b) → (∃ b, y = some b) → ∃ b, (bif c then x else y) = some b := by
      rintro (_ | _) x y h1 h2
      · exact h2
      · exact h1
    repeat' first | exact ⟨_, rfl⟩ | refine ex _ _ _ ?_ ?_
  obtain ⟨b, hb⟩ := this
  unfold immB
  rw [hb]
  rfl
theorem rRight_eq (i : GInst) : ref02_Right i = some (rightB i) := by
  unfold ref02_Right rightB
  rw [rForm_eq, Option.bind_some]
  cases formOf i.Op != 0 with
  | false => rfl
  | true =>
    simp only [cond_true, rhas1, rhas2, rhas3, rreg_eq, rroom_eq, Option.bind_some, Bool.true_and]
    cases regB i.Rd (hasD (formOf i.Op)) with
    | false => rfl
    | true =>
      cases regB i.Rs1 (has1 (formOf i.Op)) with
      | false => rfl
      | true => cases regB i.Rs2 (has2 (formOf i.Op)) <;> rfl
theorem needs_eq (o : Int) (h : formOf o ≠ 0) : inst_needs (formOf o) = some (hasD (formOf o), has1 (formOf o), has2 (formOf o), formOf o != 82) := by
  rcases forms o with e | e | e | e | e | e | e | e
  · exact absurd e h
  all_goals rw [e]; rfl
theorem tm0 (n k : Int) : (Int.tmod n k == 0) = decide (n % k = 0) := by
  have : Int.tmod n k = 0 ↔ n % k = 0 := by rw [← Int.dvd_iff_tmod_eq_zero, Int.dvd_iff_emod_eq_zero]
  rw [← decide_eq_decide.2 this]
  rfl
theorem bb (a b c : Prop) [Decidable a] [Decidable b] [Decidable c] : (bif decide a then bif decide b then some (decide c) else some false else some false : Option Bool) = some (decide (a ∧ b ∧ c)) := by
  by_cases h1 : a <;> by_cases h2 : b <;> by_cases h3 : c <;> simp [h1, h2, h3]
theorem bb2 (a b : Prop) [Decidable a] [Decidable b] : (bif decide a then some (decide b) else some false : Option Bool) = some (decide (a ∧ b)) := by
  by_cases h1 : a <;> by_cases h2 : b <;> simp [h1, h2]
theorem w32u' {x : Nat} (h : x < 4294967296) : IntKind.wrap .u32 (x : Int) = (x : Int) := w32u (by omega)
theorem bv32 {a : Nat} (h : a < 4294967296) : (BitVec.ofInt 32 (a : Int)).toNat = a := by
  rw [BitVec.ofInt_natCast, BitVec.toNat_ofNat]; exact Nat.mod_eq_of_lt h
theorem or32n {a b : Nat} (ha : a < 4294967296) (hb : b < 4294967296) : bits .or .u32 (a : Int) (b : Int) = ((a ||| b : Nat) : Int) := by
  show IntKind.u32.wrap ((BitVec.ofInt 32 (a : Int) ||| BitVec.ofInt 32 (b : Int)).toNat : Int) = _
  rw [BitVec.toNat_or, bv32 ha, bv32 hb, w32u' (Nat.or_lt_two_pow (n := 32) ha hb)]
theorem and32 (m k : Nat) (hm : m < 4294967296) (hk : k < 32) : bits .and .u32 (m : Int) ((2 ^ k - 1 : Nat) : Int) = ((m % 2 ^ k : Nat) : Int) := by
  have h3 : 2 ^ k < 2 ^ 32 := Nat.pow_lt_pow_right (by omega) hk
  show IntKind.u32.wrap ((BitVec.ofInt 32 (m : Int) &&& BitVec.ofInt 32 ((2 ^ k - 1 : Nat) : Int)).toNat : Int) = _
  have := Nat.mod_le m (2 ^ k)
  rw [BitVec.toNat_and, bv32 hm, bv32 (by omega), Nat.and_two_pow_sub_one_eq_mod, w32u' (by omega)]
theorem high20 (x : Nat) (h : x < 4294967296) : x &&& 4294963200 = x / 4096 * 4096 := by
  rw [show (4294963200 : Nat) = (2 ^ 20 - 1) <<< 12 from rfl, show x / 4096 * 4096 = (x >>> 12) <<< 12 by rw [Nat.shiftLeft_eq, Nat.shiftRight_eq_div_pow]]
  apply Nat.eq_of_testBit_eq
  intro i
  rw [Nat.testBit_and, Nat.testBit_shiftLeft, Nat.testBit_shiftLeft, Nat.testBit_shiftRight, Nat.testBit_two_pow_sub_one]
  by_cases h1 : 12 ≤ i
  · simp only [ge_iff_le, h1, decide_true, Bool.true_and]
    rw [show 12 + (i - 12) = i by omega]
    by_cases h2 : i - 12 < 20
    · simp [h2]
    · rw [Nat.testBit_lt_two_pow (Nat.lt_of_lt_of_le h (show 4294967296 ≤ 2 ^ i from Nat.pow_le_pow_right (n := 2) (by omega) (show 32 ≤ i by omega)))]
      rfl
  · simp [h1]
theorem andN (x : Nat) (h : x < 4294967296) : bits .andNot .u32 (x : Int) 4095 = ((x / 4096 * 4096 : Nat) : Int) := by
  show IntKind.u32.wrap ((BitVec.ofInt 32 (x : Int) &&& ~~~ BitVec.ofInt 32 4095).toNat : Int) = _
  rw [BitVec.toNat_and, bv32 h, show (~~~ BitVec.ofInt 32 4095).toNat = 4294963200 by decide +kernel, high20 x h, w32u' (by omega)]
theorem ibits {w : Nat} (hw : w < 4294967296) {a m : Int} (ha : 0 ≤ a ∧ a < 32) (hm : 0 ≤ m ∧ m < 32) : inst_bits (w : Int) a m = some ((w / 2 ^ a.toNat % 2 ^ m.toNat : Nat) : Int) := by
  unfold inst_bits nn
  rw [if_pos ha.1, if_pos hm.1, Option.bind_some, Option.bind_some]
  have e1 : min (Int.toNat a) (IntKind.bits .u32) = a.toNat := Nat.min_eq_left (by show a.toNat ≤ 32; omega)
  have e2 : min (Int.toNat m) (IntKind.bits .u32) = m.toNat := Nat.min_eq_left (by show m.toNat ≤ 32; omega)
  have h3 : 2 ^ m.toNat < 2 ^ 32 := Nat.pow_lt_pow_right (by omega) (by omega)
  have h4 : 0 < 2 ^ m.toNat := Nat.pow_pos (by omega)
  have h5 : 0 < 2 ^ a.toNat := Nat.pow_pos (by omega)
  have e3 : IntKind.wrap .u32 ((IntKind.wrap .u32 (1 * 2 ^ m.toNat)) - 1) = ((2 ^ m.toNat - 1 : Nat) : Int) := by
    rw [show (1 * 2 ^ m.toNat : Int) = ((2 ^ m.toNat : Nat) : Int) by simp, w32u' (by omega), show ((2 ^ m.toNat : Nat) : Int) - 1 = ((2 ^ m.toNat - 1 : Nat) : Int) by omega, w32u' (by omega)]
  have e4 : Int.fdiv (w : Int) (2 ^ a.toNat) = ((w / 2 ^ a.toNat : Nat) : Int) := by
    rw [show (2 ^ a.toNat : Int) = ((2 ^ a.toNat : Nat) : Int) by simp, Int.fdiv_eq_ediv_of_nonneg _ (by omega), Int.natCast_ediv]
  have h6 : w / 2 ^ a.toNat ≤ w := Nat.div_le_self _ _
  rw [e1, e2, e3, e4, and32 _ _ (by omega) (by omega)]
theorem ibP {w : Nat} (hw : w < 4294967296) {a m : Int} {p q : Nat} (ha : 0 ≤ a ∧ a < 32) (hm : 0 ≤ m ∧ m < 32) (hp : 2 ^ a.toNat = p) (hq : 2 ^ m.toNat = q) : inst_bits (w : Int) a m = some ((w / p % q : Nat) : Int) := by
  subst hp hq
  exact ibits hw ha hm
theorem two_eq {k : Int} (h : 0 ≤ k ∧ k < 62) : ref02_two k = some ((2 ^ k.toNat : Nat) : Int) := by
  obtain ⟨n, rfl⟩ : ∃ n : Nat, k = (n : Int) := ⟨k.toNat, by omega⟩
  unfold ref02_two
  have hp : ∀ j, j ≤ n → 2 ^ j < 2 ^ 62 := fun j hj => Nat.pow_lt_pow_right (by omega) (by omega)
  refine run_bind (fun j => (((2 ^ j : Nat) : Int), (j : Int))) n (.brk (((2 ^ n : Nat) : Int), (n : Int))) rfl (by omega) (fun j hj => ?_) ?_ trivial rfl
  · have := hp (j + 1) (by omega)
    have e : (2 : Nat) ^ (j + 1) = 2 * 2 ^ j := by rw [Nat.pow_succ, Nat.mul_comm]
    simp only []
    rw [c1 (dt (by omega)), w64 (by omega), w64 (by omega), e]
    congr 3
  · simp only []
    rw [c0 (df (by omega))]
theorem move_eq {n : Int} {w : Nat} (hw : w < 4294967296) (h : (n < 0 ∧ n + 4294967296 = (w : Int)) ∨ (0 ≤ n ∧ n = (w : Int))) {a b c : Int} (ha : 0 ≤ a ∧ a ≤ b ∧ b < 32) (hc : 0 ≤ c ∧ c + (b - a + 1) ≤ 32) :
    ref02_move n a b c = some ((w / 2 ^ a.toNat % 2 ^ (b - a + 1).toNat * 2 ^ c.toNat : Nat) : Int) := by
  unfold ref02_move
  dsimp only [jn]
  have key : ∀ x1 : Int, x1 = (w : Int) → ((ref02_two a).bind fun y1 => (nz y1).bind fun _ => (ref02_two (IntKind.wrap .i64 ((IntKind.wrap .i64 (b - a)) + 1))).bind fun y2 => (nz y2).bind fun _ => (ref02_two c).bind fun y3 => some (IntKind.wrap .i64 ((Int.tmod (IntKind.wrap .i64 (Int.tdiv x1 y1)) y2) * y3))) = some ((w / 2 ^ a.toNat % 2 ^ (b - a + 1).toNat * 2 ^ c.toNat : Nat) : Int) := by
    intro x1 hx
    subst hx
    have p1 : 0 < 2 ^ a.toNat := Nat.pow_pos (by decide)
    have p2 : 0 < 2 ^ (b - a + 1).toNat := Nat.pow_pos (by decide)
    have p3 : 0 < 2 ^ c.toNat := Nat.pow_pos (by decide)
    have p4 : 2 ^ (b - a + 1).toNat * 2 ^ c.toNat ≤ 4294967296 := by
      rw [← Nat.pow_add]
      exact Nat.pow_le_pow_right (n := 2) (by decide) (show (b - a + 1).toNat + c.toNat ≤ 32 by omega)
    rw [two_eq (by omega), Option.bind_some, show IntKind.wrap .i64 (b - a) = b - a from w64 (by omega), show IntKind.wrap .i64 (b - a + 1) = b - a + 1 from w64 (by omega), two_eq (by omega), two_eq (by omega)]
    clear h ha hc
    generalize 2 ^ a.toNat = A at *
    generalize 2 ^ (b - a + 1).toNat = B at *
    generalize 2 ^ c.toNat = C at *
    unfold nz
    rw [if_neg (by omega), Option.bind_some, Option.bind_some, if_neg (by omega), Option.bind_some, Option.bind_some]
    have h6 : w / A ≤ w := Nat.div_le_self _ _
    have h7 : w / A % B < B := Nat.mod_lt _ p2
    have h8 : w / A % B * C < 4294967296 := Nat.lt_of_lt_of_le ((Nat.mul_lt_mul_right p3).2 h7) p4
    have q1 : Int.tdiv (w : Int) (A : Int) = ((w / A : Nat) : Int) := by rw [Int.tdiv_eq_ediv_of_nonneg (Int.natCast_nonneg _), ← Int.natCast_ediv]
    have q2 : IntKind.wrap .i64 ((w / A : Nat) : Int) = ((w / A : Nat) : Int) := by
      generalize w / A = z at *
      exact w64 (by omega)
    have q3 : Int.tmod ((w / A : Nat) : Int) (B : Int) = ((w / A % B : Nat) : Int) := by rw [Int.tmod_eq_emod_of_nonneg (Int.natCast_nonneg _), ← Int.natCast_emod]
    have q4 : IntKind.wrap .i64 ((w / A % B * C : Nat) : Int) = ((w / A % B * C : Nat) : Int) := by
      generalize w / A % B * C = z at *
      exact w64 (by omega)
    rw [q1, q2, q3, ← Int.natCast_mul, q4]
  rcases h with ⟨h1, h2⟩ | ⟨h1, h2⟩
  · rw [c1 (dt h1)]
    exact key _ (by rw [w64 (by omega)]; exact h2)
  · rw [c0 (df (by omega))]
    exact key _ h2
theorem signed_eq {n k : Int} (hk : 1 ≤ k ∧ k ≤ 32) (hn : 0 ≤ n ∧ n < 4294967296) : ref02_signed n k = some (if (2 ^ (k - 1).toNat : Nat) ≤ n then n - (2 ^ k.toNat : Nat) else n) := by
  unfold ref02_signed
  have : 2 ^ k.toNat ≤ 2 ^ 32 := Nat.pow_le_pow_right (by omega) (by omega)
  rw [w64 (by omega), two_eq (by omega), Option.bind_some]
  split
  · rename_i h
    have h9 : 0 < 2 ^ k.toNat := Nat.pow_pos (by decide)
    rw [c1 (dt h), two_eq (by omega), Option.bind_some]
    generalize 2 ^ k.toNat = A at *
    rw [w64 (by omega)]
  · rename_i h
    rw [c0 (df h)]
def immF (f : Int) (w : Nat) : Int :=
  if f = 85 then (if 524288 ≤ w / 4096 % 1048576 then ((w / 4096 % 1048576 : Nat) : Int) * 4096 - 4294967296 else ((w / 4096 % 1048576 : Nat) : Int) * 4096)
  else if f = 74 then ((w / 2097152 % 1024 : Nat) : Int) * 2 + ((w / 1048576 % 2 : Nat) : Int) * 2048 + ((w / 4096 % 256 : Nat) : Int) * 4096 - ((w / 2147483648 % 2 : Nat) : Int) * 1048576
  else if f = 73 then (if 2048 ≤ w / 1048576 % 4096 then ((w / 1048576 % 4096 : Nat) : Int) - 4096 else ((w / 1048576 % 4096 : Nat) : Int))
  else if f = 72 then ((w / 1048576 % 32 : Nat) : Int)
  else if f = 83 then (if 64 ≤ w / 33554432 % 128 then ((w / 33554432 % 128 : Nat) : Int) * 32 + ((w / 128 % 32 : Nat) : Int) - 4096 else ((w / 33554432 % 128 : Nat) : Int) * 32 + ((w / 128 % 32 : Nat) : Int))
  else if f = 66 then ((w / 33554432 % 64 : Nat) : Int) * 32 + ((w / 256 % 16 : Nat) : Int) * 2 + ((w / 128 % 2 : Nat) : Int) * 2048 - ((w / 2147483648 % 2 : Nat) : Int) * 4096
  else 0
theorem fN (w k m : Nat) (h : 0 < m) : ∃ x, w / k % m = x ∧ x < m := ⟨_, rfl, Nat.mod_lt _ h⟩
theorem Gather_eq {w : Nat} (hw : w < 4294967296) (f : Int) : ref02_Gather f (w : Int) = some (immF f w) := by
  have mv : ∀ {a b c : Int}, 0 ≤ a ∧ a ≤ b ∧ b < 32 → 0 ≤ c ∧ c + (b - a + 1) ≤ 32 → ref02_move (w : Int) a b c = some ((w / 2 ^ a.toNat % 2 ^ (b - a + 1).toNat * 2 ^ c.toNat : Nat) : Int) := fun ha hc => move_eq hw (.inr ⟨Int.natCast_nonneg _, rfl⟩) ha hc
  unfold ref02_Gather immF
  by_cases h : f = 85
  · subst h
    rw [if_pos rfl]
    simp (disch := decide) only [Int.reduceBEq, cond_true, cond_false, mv, Option.bind_some, Int.reduceToNat, Int.reduceSub, Int.reduceAdd, Nat.reducePow]
    obtain ⟨x, e, hx⟩ := fN w 4096 1048576 (by decide)
    rw [e]
    clear mv hw
    rw [signed_eq (by omega) (by omega), Option.bind_some]
    simp only [Int.reduceToNat, Int.reduceSub, Nat.reducePow]
    congr 1
    split <;> split <;> omega
  rw [if_neg h, c0 (by simpa using h)]
  by_cases h : f = 74
  · subst h
    rw [if_pos rfl]
    simp (disch := decide) only [Int.reduceBEq, cond_true, cond_false, mv, Option.bind_some, Int.reduceToNat, Int.reduceSub, Int.reduceAdd, Nat.reducePow]
    obtain ⟨x, e1, h1⟩ := fN w 2147483648 2 (by decide)
    obtain ⟨y, e2, h2⟩ := fN w 2097152 1024 (by decide)
    obtain ⟨z, e3, h3⟩ := fN w 1048576 2 (by decide)
    obtain ⟨u, e4, h4⟩ := fN w 4096 256 (by decide)
    rw [e1, e2, e3, e4]
    clear mv hw e1 e2 e3 e4
    simp (disch := omega) only [w64]
    rw [signed_eq (by omega) (by omega), Option.bind_some]
    simp only [Int.reduceToNat, Int.reduceSub, Nat.reducePow]
    congr 1
    split <;> omega
  rw [if_neg h, c0 (by simpa using h)]
  by_cases h : f = 73
  · subst h
    rw [if_pos rfl]
    simp (disch := decide) only [Int.reduceBEq, cond_true, cond_false, mv, Option.bind_some, Int.reduceToNat, Int.reduceSub, Int.reduceAdd, Nat.reducePow]
    obtain ⟨x, e, hx⟩ := fN w 1048576 4096 (by decide)
    rw [e]
    clear mv hw
    rw [signed_eq (by omega) (by omega), Option.bind_some]
    simp only [Int.reduceToNat, Int.reduceSub, Nat.reducePow]
    congr 1
    split <;> split <;> omega
  rw [if_neg h, c0 (by simpa using h)]
  by_cases h : f = 72
  · subst h
    rw [if_pos rfl]
    simp (disch := decide) only [Int.reduceBEq, cond_true, cond_false, mv, Option.bind_some, Int.reduceToNat, Int.reduceSub, Int.reduceAdd, Nat.reducePow, Nat.mul_one]
  rw [if_neg h, c0 (by simpa using h)]
  by_cases h : f = 83
  · subst h
    rw [if_pos rfl]
    simp (disch := decide) only [Int.reduceBEq, cond_true, cond_false, mv, Option.bind_some, Int.reduceToNat, Int.reduceSub, Int.reduceAdd, Nat.reducePow]
    obtain ⟨x, e1, h1⟩ := fN w 33554432 128 (by decide)
    obtain ⟨y, e2, h2⟩ := fN w 128 32 (by decide)
    rw [e1, e2]
    clear mv hw e1 e2
    simp (disch := omega) only [w64]
    rw [signed_eq (by omega) (by omega), Option.bind_some]
    simp only [Int.reduceToNat, Int.reduceSub, Nat.reducePow]
    congr 1
    split <;> split <;> omega
  rw [if_neg h, c0 (by simpa using h)]
  by_cases h : f = 66
  · subst h
    rw [if_pos rfl]
    simp (disch := decide) only [Int.reduceBEq, cond_true, mv, Option.bind_some, Int.reduceToNat, Int.reduceSub, Int.reduceAdd, Nat.reducePow]
    obtain ⟨x, e1, h1⟩ := fN w 2147483648 2 (by decide)
    obtain ⟨y, e2, h2⟩ := fN w 33554432 64 (by decide)
    obtain ⟨z, e3, h3⟩ := fN w 256 16 (by decide)
    obtain ⟨u, e4, h4⟩ := fN w 128 2 (by decide)
    rw [e1, e2, e3, e4]
    clear mv hw e1 e2 e3 e4
    simp (disch := omega) only [w64]
    rw [signed_eq (by omega) (by omega), Option.bind_some]
    simp only [Int.reduceToNat, Int.reduceSub, Nat.reducePow]
    congr 1
    split <;> omega
  rw [if_neg h, c0 (by simpa using h)]
theorem w32s {x : Nat} (h : x < 4294967296) : IntKind.wrap .i32 (x : Int) = if 2147483648 ≤ x then (x : Int) - 4294967296 else (x : Int) := by
  have e : (x : Int) % 2 ^ 32 = x := Int.emod_eq_of_lt (by omega) (by omega)
  show (if (true && decide ((x : Int) % 2 ^ 32 ≥ 2 ^ 31)) = true then (x : Int) % 2 ^ 32 - 2 ^ 32 else (x : Int) % 2 ^ 32) = _
  rw [Bool.true_and]
  simp only [e, decide_eq_true_eq]
  split <;> split <;> omega
theorem wu32n {n : Int} (h : -4294967296 ≤ n ∧ n < 0) : IntKind.wrap .u32 n = n + 4294967296 := by
  simp only [IntKind.wrap, IntKind.signed, IntKind.bits]
  simp
  omega
theorem wi32 {x : Nat} (h : x < 4294967296) : IntKind.wrap .i64 (IntKind.wrap .i32 (x : Int)) = if 2147483648 ≤ x then (x : Int) - 4294967296 else (x : Int) := by
  rw [w32s h]
  split <;> exact w64 (by omega)
theorem orS {a b : Nat} (k : Nat) (h : b < 2 ^ k) : a * 2 ^ k ||| b = a * 2 ^ k + b := by
  rw [Nat.mul_comm]
  exact (Nat.two_pow_add_eq_or_of_lt h a).symm
theorem orS' {a b : Nat} (k : Nat) (h : b < 2 ^ k) : b ||| a * 2 ^ k = a * 2 ^ k + b := by
  rw [Nat.or_comm]
  exact orS k h
theorem orP {a b p : Nat} (k : Nat) (hp : 2 ^ k = p) (h : b < p) : a * p ||| b = a * p + b := by
  subst hp
  exact orS k h
theorem orP' {a b p : Nat} (k : Nat) (hp : 2 ^ k = p) (h : b < p) : b ||| a * p = a * p + b := by
  subst hp
  exact orS' k h
theorem shP {x p : Nat} {k : Int} (hk : 0 ≤ k ∧ k ≤ 32) (hp : 2 ^ k.toNat = p) (h : x * p < 4294967296) : IntKind.wrap .u32 ((x : Int) * 2 ^ (min (Int.toNat k) (IntKind.bits .u32))) = ((x * p : Nat) : Int) := by
  subst hp
  rw [show min (Int.toNat k) (IntKind.bits .u32) = k.toNat from Nat.min_eq_left (by show k.toNat ≤ 32; omega), show (x : Int) * 2 ^ k.toNat = ((x * 2 ^ k.toNat : Nat) : Int) by simp, w32u' h]
theorem sign21 {x : Nat} (h : x < 2097152) : ∃ y, word_Sign (x : Int) 21 = some y ∧ IntKind.wrap .i64 (IntKind.wrap .i32 y) = if 1048576 ≤ x then (x : Int) - 2097152 else x := by
  unfold word_Sign nn
  simp only [Int.reduceLT, decide_false, cond_false]
  rw [show IntKind.wrap .i64 (32 - 21) = 11 from rfl, if_pos (by decide), Option.bind_some, Option.bind_some, show (2 : Int) ^ (min (Int.toNat 11) (IntKind.bits .u32)) = 2048 from rfl, show (2 : Int) ^ (min (Int.toNat 11) (IntKind.bits .i32)) = 2048 from rfl,
    show (x : Int) * 2048 = ((x * 2048 : Nat) : Int) by omega, w32u' (by omega), w32s (by omega), Int.fdiv_eq_ediv_of_nonneg _ (by decide)]
  refine ⟨_, rfl, ?_⟩
  by_cases hx : 1048576 ≤ x
  · rw [if_pos (by omega), if_pos hx, show (((x * 2048 : Nat) : Int) - 4294967296) / 2048 = (x : Int) - 2097152 by omega, wu32n (by omega), show (x : Int) - 2097152 + 4294967296 = ((x + 4292870144 : Nat) : Int) by omega, wi32 (by omega), if_pos (by omega)]
    omega
  · rw [if_neg (by omega), if_neg hx, show ((x * 2048 : Nat) : Int) / 2048 = (x : Int) by omega, w32u' (by omega), wi32 (by omega), if_neg (by omega)]
theorem sign12 {x : Nat} (h : x < 4096) : ∃ y, word_Sign (x : Int) 12 = some y ∧ IntKind.wrap .i64 (IntKind.wrap .i32 y) = if 2048 ≤ x then (x : Int) - 4096 else x := by
  unfold word_Sign nn
  simp only [Int.reduceLT, decide_false, cond_false]
  rw [show IntKind.wrap .i64 (32 - 12) = 20 from rfl, if_pos (by decide), Option.bind_some, Option.bind_some, show (2 : Int) ^ (min (Int.toNat 20) (IntKind.bits .u32)) = 1048576 from rfl, show (2 : Int) ^ (min (Int.toNat 20) (IntKind.bits .i32)) = 1048576 from rfl,
    show (x : Int) * 1048576 = ((x * 1048576 : Nat) : Int) by omega, w32u' (by omega), w32s (by omega), Int.fdiv_eq_ediv_of_nonneg _ (by decide)]
  refine ⟨_, rfl, ?_⟩
  by_cases hx : 2048 ≤ x
  · rw [if_pos (by omega), if_pos hx, show (((x * 1048576 : Nat) : Int) - 4294967296) / 1048576 = (x : Int) - 4096 by omega, wu32n (by omega), show (x : Int) - 4096 + 4294967296 = ((x + 4294963200 : Nat) : Int) by omega, wi32 (by omega), if_pos (by omega)]
    omega
  · rw [if_neg (by omega), if_neg hx, show ((x * 1048576 : Nat) : Int) / 1048576 = (x : Int) by omega, w32u' (by omega), wi32 (by omega), if_neg (by omega)]
theorem sign13 {x : Nat} (h : x < 8192) : ∃ y, word_Sign (x : Int) 13 = some y ∧ IntKind.wrap .i64 (IntKind.wrap .i32 y) = if 4096 ≤ x then (x : Int) - 8192 else x := by
  unfold word_Sign nn
  simp only [Int.reduceLT, decide_false, cond_false]
  rw [show IntKind.wrap .i64 (32 - 13) = 19 from rfl, if_pos (by decide), Option.bind_some, Option.bind_some, show (2 : Int) ^ (min (Int.toNat 19) (IntKind.bits .u32)) = 524288 from rfl, show (2 : Int) ^ (min (Int.toNat 19) (IntKind.bits .i32)) = 524288 from rfl,
    show (x : Int) * 524288 = ((x * 524288 : Nat) : Int) by omega, w32u' (by omega), w32s (by omega), Int.fdiv_eq_ediv_of_nonneg _ (by decide)]
  refine ⟨_, rfl, ?_⟩
  by_cases hx : 4096 ≤ x
  · rw [if_pos (by omega), if_pos hx, show (((x * 524288 : Nat) : Int) - 4294967296) / 524288 = (x : Int) - 8192 by omega, wu32n (by omega), show (x : Int) - 8192 + 4294967296 = ((x + 4294959104 : Nat) : Int) by omega, wi32 (by omega), if_pos (by omega)]
    omega
  · rw [if_neg (by omega), if_neg hx, show ((x * 524288 : Nat) : Int) / 524288 = (x : Int) by omega, w32u' (by omega), wi32 (by omega), if_neg (by omega)]
theorem told85 {w : Nat} (hw : w < 4294967296) : inst_told 85 (w : Int) = some (immF 85 w) := by
  unfold inst_told immF
  rw [if_pos rfl, show ((85 : Int) == 85) = true from rfl, cond_true]
  rw [andN w hw, show w / 4096 = w / 4096 % 1048576 by omega]
  obtain ⟨x, e, hx⟩ := fN w 4096 1048576 (by decide)
  rw [e, show x % 1048576 = x by omega]
  clear hw e
  rw [wi32 (by omega)]
  congr 1
  split <;> split <;> omega
theorem told74 {w : Nat} (hw : w < 4294967296) : inst_told 74 (w : Int) = some (immF 74 w) := by
  have b0 : inst_bits (w : Int) 31 1 = some ((w / 2147483648 % 2 : Nat) : Int) := ibP hw (by decide) (by decide) (by decide) (by decide)
  have b1 : inst_bits (w : Int) 21 10 = some ((w / 2097152 % 1024 : Nat) : Int) := ibP hw (by decide) (by decide) (by decide) (by decide)
  have b2 : inst_bits (w : Int) 20 1 = some ((w / 1048576 % 2 : Nat) : Int) := ibP hw (by decide) (by decide) (by decide) (by decide)
  have b3 : inst_bits (w : Int) 12 8 = some ((w / 4096 % 256 : Nat) : Int) := ibP hw (by decide) (by decide) (by decide) (by decide)
  unfold inst_told immF
  rw [if_neg (by decide), if_pos rfl, show ((74 : Int) == 85) = false from rfl, cond_false, show ((74 : Int) == 74) = true from rfl, cond_true]
  rw [b0, Option.bind_some, b1, Option.bind_some, b2, Option.bind_some, b3, Option.bind_some]
  obtain ⟨x, e0, h0⟩ := fN w 2147483648 2 (by decide)
  obtain ⟨y, e1, h1⟩ := fN w 2097152 1024 (by decide)
  obtain ⟨z, e2, h2⟩ := fN w 1048576 2 (by decide)
  obtain ⟨u, e3, h3⟩ := fN w 4096 256 (by decide)
  rw [e0, e1, e2, e3]
  clear b0 b1 b2 b3 hw e0 e1 e2 e3
  have a1 : x * 1048576 ||| y * 2 = x * 1048576 + y * 2 := orP 20 rfl (by omega)
  have a2 : x * 1048576 + y * 2 ||| z * 2048 = x * 1048576 + (z * 2048 + y * 2) := by
    rw [← orP 20 rfl (by omega), Nat.or_assoc, orP' 11 rfl (by omega), orP 20 rfl (by omega)]
  have a3 : x * 1048576 + (z * 2048 + y * 2) ||| u * 4096 = x * 1048576 + (u * 4096 + (z * 2048 + y * 2)) := by
    rw [← orP 20 rfl (by omega), Nat.or_assoc, orP' 12 rfl (by omega), orP 20 rfl (by omega)]
  rw [shP (k := 20) (p := 1048576) (by decide) rfl (by omega), shP (k := 1) (p := 2) (by decide) rfl (by omega), shP (k := 11) (p := 2048) (by decide) rfl (by omega), shP (k := 12) (p := 4096) (by decide) rfl (by omega), or32n (by omega) (by omega), a1, or32n (by omega) (by omega), a2, or32n (by omega) (by omega), a3]
  clear a1 a2 a3
  obtain ⟨v, hy, hv⟩ := sign21 (x := x * 1048576 + (u * 4096 + (z * 2048 + y * 2))) (by omega)
  rw [hy, Option.bind_some, hv]
  clear hv hy
  congr 1
  split <;> omega
theorem told73 {w : Nat} (hw : w < 4294967296) : inst_told 73 (w : Int) = some (immF 73 w) := by
  unfold inst_told immF
  rw [if_neg (by decide), if_neg (by decide), if_pos rfl, show ((73 : Int) == 85) = false from rfl, cond_false, show ((73 : Int) == 74) = false from rfl, cond_false, show ((73 : Int) == 73) = true from rfl, cond_true]
  rw [show (2 : Int) ^ (min (Int.toNat 20) (IntKind.bits .i32)) = 1048576 from rfl, Int.fdiv_eq_ediv_of_nonneg _ (by decide), w32s hw]
  have : 2147483648 ≤ w ↔ 2048 ≤ w / 1048576 % 4096 := by omega
  congr 1
  by_cases hs : 2147483648 ≤ w
  · rw [if_pos hs, if_pos (this.1 hs), show ((w : Int) - 4294967296) / 1048576 = ((w / 1048576 % 4096 : Nat) : Int) - 4096 by omega]
    refine w64 ⟨?_, ?_⟩ <;> omega
  · rw [if_neg hs, if_neg (fun e => hs (this.2 e)), show (w : Int) / 1048576 = ((w / 1048576 % 4096 : Nat) : Int) by omega]
    refine w64 ⟨?_, ?_⟩ <;> omega
theorem told72 {w : Nat} (hw : w < 4294967296) : inst_told 72 (w : Int) = some (immF 72 w) := by
  have b0 : inst_bits (w : Int) 20 5 = some ((w / 1048576 % 32 : Nat) : Int) := ibP hw (by decide) (by decide) (by decide) (by decide)
  unfold inst_told immF
  rw [if_neg (by decide), if_neg (by decide), if_neg (by decide), if_pos rfl, show ((72 : Int) == 85) = false from rfl, cond_false, show ((72 : Int) == 74) = false from rfl, cond_false, show ((72 : Int) == 73) = false from rfl, cond_false, show ((72 : Int) == 72) = true from rfl, cond_true]
  rw [b0]
  simp only [Option.bind_some]
  rw [w64 (by omega)]
theorem told83 {w : Nat} (hw : w < 4294967296) : inst_told 83 (w : Int) = some (immF 83 w) := by
  have b0 : inst_bits (w : Int) 25 7 = some ((w / 33554432 % 128 : Nat) : Int) := ibP hw (by decide) (by decide) (by decide) (by decide)
  have b1 : inst_bits (w : Int) 7 5 = some ((w / 128 % 32 : Nat) : Int) := ibP hw (by decide) (by decide) (by decide) (by decide)
  unfold inst_told immF
  rw [if_neg (by decide), if_neg (by decide), if_neg (by decide), if_neg (by decide), if_pos rfl, show ((83 : Int) == 85) = false from rfl, cond_false, show ((83 : Int) == 74) = false from rfl, cond_false, show ((83 : Int) == 73) = false from rfl, cond_false, show ((83 : Int) == 72) = false from rfl, cond_false, show ((83 : Int) == 83) = true from rfl, cond_true]
  rw [b0, Option.bind_some, b1, Option.bind_some]
  obtain ⟨x, e0, h0⟩ := fN w 33554432 128 (by decide)
  obtain ⟨y, e1, h1⟩ := fN w 128 32 (by decide)
  rw [e0, e1]
  clear b0 b1 hw e0 e1
  have a1 : x * 32 ||| y = x * 32 + y := orP 5 rfl (by omega)
  rw [shP (k := 5) (p := 32) (by decide) rfl (by omega), or32n (by omega) (by omega), a1]
  clear a1
  obtain ⟨v, hy, hv⟩ := sign12 (x := x * 32 + y) (by omega)
  rw [hy, Option.bind_some, hv]
  clear hv hy
  congr 1
  split <;> split <;> omega
theorem told66 {w : Nat} (hw : w < 4294967296) : inst_told 66 (w : Int) = some (immF 66 w) := by
  have b0 : inst_bits (w : Int) 31 1 = some ((w / 2147483648 % 2 : Nat) : Int) := ibP hw (by decide) (by decide) (by decide) (by decide)
  have b1 : inst_bits (w : Int) 25 6 = some ((w / 33554432 % 64 : Nat) : Int) := ibP hw (by decide) (by decide) (by decide) (by decide)
  have b2 : inst_bits (w : Int) 8 4 = some ((w / 256 % 16 : Nat) : Int) := ibP hw (by decide) (by decide) (by decide) (by decide)
  have b3 : inst_bits (w : Int) 7 1 = some ((w / 128 % 2 : Nat) : Int) := ibP hw (by decide) (by decide) (by decide) (by decide)
  unfold inst_told immF
  rw [if_neg (by decide), if_neg (by decide), if_neg (by decide), if_neg (by decide), if_neg (by decide), if_pos rfl, show ((66 : Int) == 85) = false from rfl, cond_false, show ((66 : Int) == 74) = false from rfl, cond_false, show ((66 : Int) == 73) = false from rfl, cond_false, show ((66 : Int) == 72) = false from rfl, cond_false, show ((66 : Int) == 83) = false from rfl, cond_false, show ((66 : Int) == 66) = true from rfl, cond_true]
  rw [b0, Option.bind_some, b1, Option.bind_some, b2, Option.bind_some, b3, Option.bind_some]
  obtain ⟨x, e0, h0⟩ := fN w 2147483648 2 (by decide)
  obtain ⟨y, e1, h1⟩ := fN w 33554432 64 (by decide)
  obtain ⟨z, e2, h2⟩ := fN w 256 16 (by decide)
  obtain ⟨u, e3, h3⟩ := fN w 128 2 (by decide)
  rw [e0, e1, e2, e3]
  clear b0 b1 b2 b3 hw e0 e1 e2 e3
  have a1 : x * 4096 ||| y * 32 = x * 4096 + y * 32 := orP 12 rfl (by omega)
  have a2 : x * 4096 + y * 32 ||| z * 2 = x * 4096 + (y * 32 + z * 2) := by
    rw [← orP 12 rfl (by omega), Nat.or_assoc, orP 5 rfl (by omega), orP 12 rfl (by omega)]
  have a3 : x * 4096 + (y * 32 + z * 2) ||| u * 2048 = x * 4096 + (u * 2048 + (y * 32 + z * 2)) := by
    rw [← orP 12 rfl (by omega), Nat.or_assoc, orP' 11 rfl (by omega), orP 12 rfl (by omega)]
  rw [shP (k := 12) (p := 4096) (by decide) rfl (by omega), shP (k := 5) (p := 32) (by decide) rfl (by omega), shP (k := 1) (p := 2) (by decide) rfl (by omega), shP (k := 11) (p := 2048) (by decide) rfl (by omega), or32n (by omega) (by omega), a1, or32n (by omega) (by omega), a2, or32n (by omega) (by omega), a3]
  clear a1 a2 a3
  obtain ⟨v, hy, hv⟩ := sign13 (x := x * 4096 + (u * 2048 + (y * 32 + z * 2))) (by omega)
  rw [hy, Option.bind_some, hv]
  clear hv hy
  congr 1
  split <;> omega
theorem told_eq {w : Nat} (hw : w < 4294967296) (f : Int) : inst_told f (w : Int) = some (immF f w) := by
  by_cases h : f = 85
  · rw [h]; exact told85 hw
  by_cases h : f = 74
  · rw [h]; exact told74 hw
  by_cases h : f = 73
  · rw [h]; exact told73 hw
  by_cases h : f = 72
  · rw [h]; exact told72 hw
  by_cases h : f = 83
  · rw [h]; exact told83 hw
  by_cases h : f = 66
  · rw [h]; exact told66 hw
  unfold inst_told immF
  rename_i h1 h2 h3 h4 h5
  rw [if_neg h1, if_neg h2, if_neg h3, if_neg h4, if_neg h5, if_neg h, c0 (by simpa using h1), c0 (by simpa using h2), c0 (by simpa using h3), c0 (by simpa using h4), c0 (by simpa using h5), c0 (by simpa using h)]
def shp (o : Int) : InstShape := tbl1.getD o.toNat ⟨[], 0, 0, 0, 0⟩
theorem shp_idx {o : Int} (h : 0 ≤ o ∧ o ≤ 45) : idx tbl1 o = some (shp o) := fin46 (P := fun o => idx tbl1 o = some (shp o)) (by decide +kernel) h.1 h.2
theorem shp_form {o : Int} (h : 0 ≤ o ∧ o ≤ 45) : (shp o).form = formOf o := fin46 (P := fun o => (shp o).form = formOf o) (by decide +kernel) h.1 h.2
def cNq (o : Int) : Nat := (shp o).code.toNat
def tN (o : Int) : Nat := (shp o).third.toNat
def sNq (o : Int) : Nat := (shp o).seventh.toNat
theorem op_parts {o : Int} (h : 1 ≤ o ∧ o ≤ 45) : ((shp o).code = (cNq o : Int) ∧ (shp o).third = (tN o : Int) ∧ (shp o).seventh = (sNq o : Int)) ∧ (cNq o < 128 ∧ tN o < 8 ∧ sNq o < 128) ∧
    (ref02_Code o = some (cNq o : Int) ∧ ref02_Third o = some (tN o : Int) ∧ ref02_Seventh o = some (sNq o : Int)) ∧ formOf o ≠ 0 ∧ (formOf o = 85 ∨ formOf o = 74 → tN o = 0) ∧ (formOf o ≠ 82 → formOf o ≠ 72 → sNq o = 0) :=
  fin46 (P := fun o => 1 ≤ o → ((shp o).code = (cNq o : Int) ∧ (shp o).third = (tN o : Int) ∧ (shp o).seventh = (sNq o : Int)) ∧ (cNq o < 128 ∧ tN o < 8 ∧ sNq o < 128) ∧
    (ref02_Code o = some (cNq o : Int) ∧ ref02_Third o = some (tN o : Int) ∧ ref02_Seventh o = some (sNq o : Int)) ∧ formOf o ≠ 0 ∧ (formOf o = 85 ∨ formOf o = 74 → tN o = 0) ∧ (formOf o ≠ 82 → formOf o ≠ 72 → sNq o = 0)) (by decide +kernel) (by omega) h.2 h.1
def Fits (o : Int) (w : Nat) : Prop := w % 128 = cNq o ∧ (formOf o = 85 ∨ formOf o = 74 ∨ (w / 4096 % 8 = tN o ∧ ((formOf o ≠ 82 ∧ formOf o ≠ 72) ∨ w / 33554432 = sNq o)))
instance (o : Int) (w : Nat) : Decidable (Fits o w) := by unfold Fits; infer_instance
def decI (o : Int) (w : Nat) : GInst :=
  ⟨o, bif hasD (formOf o) then (w / 128 % 32 : Nat) else 0, bif has1 (formOf o) then (w / 32768 % 32 : Nat) else 0, bif has2 (formOf o) then (w / 1048576 % 32 : Nat) else 0, immF (formOf o) w⟩
theorem beqn (a b : Nat) : (((a : Nat) : Int) == ((b : Nat) : Int)) = decide (a = b) := by
  by_cases h : a = b
  · subst h; simp
  · rw [df h, beq_eq_false_iff_ne]; omega
theorem fits_eq {w : Nat} (hw : w < 4294967296) {o : Int} (ho : 1 ≤ o ∧ o ≤ 45) : inst_fits (shp o) (w : Int) = some (decide (Fits o w)) := by
  obtain ⟨⟨h1, h2, h3⟩, _, _, hf, _, _⟩ := op_parts ho
  unfold inst_fits
  rw [shp_form ⟨by omega, ho.2⟩, h1, h2, h3, show (127 : Int) = ((2 ^ 7 - 1 : Nat) : Int) from rfl, and32 w 7 hw (by omega), ibits hw (by omega) (by omega), Option.bind_some,
    show (2 : Int) ^ (min (Int.toNat 25) (IntKind.bits .u32)) = 33554432 from rfl, Int.fdiv_eq_ediv_of_nonneg _ (by omega), show ((w : Int) / 33554432) = ((w / 33554432 : Nat) : Int) by omega, bne, bne, beqn, beqn, beqn]
  simp only [Int.reduceToNat, Nat.reducePow]
  by_cases hF : Fits o w
  · rw [dt hF]
    unfold Fits at hF
    generalize formOf o = f at *
    have e1 := hF.1
    rw [dt e1]
    rcases hF.2 with h | h | ⟨h, h'⟩
    · rw [h]; rfl
    · rw [h]; rfl
    · rw [dt h]
      cases f == 85 <;> cases f == 74 <;> try rfl
      rcases h' with h' | h'
      · rw [show (f != 82) = true by simpa using h'.1, show (f != 72) = true by simpa using h'.2]; rfl
      · rw [dt h']
        cases f != 82 <;> cases f != 72 <;> rfl
  · rw [df hF]
    unfold Fits at hF
    generalize formOf o = f at *
    by_cases e1 : w % 128 = cNq o
    · rw [dt e1]
      by_cases a1 : f = 85
      · exact absurd ⟨e1, .inl a1⟩ hF
      by_cases a2 : f = 74
      · exact absurd ⟨e1, .inr (.inl a2)⟩ hF
      rw [show (f == 85) = false by simpa using a1, show (f == 74) = false by simpa using a2]
      by_cases e2 : w / 4096 % 8 = tN o
      · rw [dt e2]
        by_cases e3 : w / 33554432 = sNq o
        · exact absurd ⟨e1, .inr (.inr ⟨e2, .inr e3⟩)⟩ hF
        · rw [df e3]
          by_cases a3 : f = 82
          · subst a3; rfl
          by_cases a4 : f = 72
          · subst a4; rfl
          exact absurd ⟨e1, .inr (.inr ⟨e2, .inl ⟨a3, a4⟩⟩)⟩ hF
      · rw [df e2]; rfl
    · rw [df e1]; rfl
theorem dec_right {w : Nat} {o : Int} (hf : formOf o ≠ 0) : rightB (decI o w) = true := by
  have hr : ∀ (b : Bool) (n : Nat), n < 32 → regB (bif b then (n : Int) else 0) b = true := by
    intro b n hn
    cases b with
    | false => rfl
    | true =>
      simp only [regB, cond_true, Bool.and_eq_true, decide_eq_true_eq]
      omega
  have hi : immB (formOf o) (immF (formOf o) w) = true := by
    unfold immB ref02_room immF
    obtain ⟨x0, e0, h0⟩ := fN w 4096 1048576 (by decide)
    obtain ⟨x1, e1, h1⟩ := fN w 2147483648 2 (by decide)
    obtain ⟨x2, e2, h2⟩ := fN w 2097152 1024 (by decide)
    obtain ⟨x3, e3, h3⟩ := fN w 1048576 2 (by decide)
    obtain ⟨x4, e4, h4⟩ := fN w 4096 256 (by decide)
    obtain ⟨x5, e5, h5⟩ := fN w 1048576 4096 (by decide)
    obtain ⟨x6, e6, h6⟩ := fN w 1048576 32 (by decide)
    obtain ⟨x7, e7, h7⟩ := fN w 33554432 128 (by decide)
    obtain ⟨x8, e8, h8⟩ := fN w 128 32 (by decide)
    obtain ⟨y1, f1, g1⟩ := fN w 33554432 64 (by decide)
    obtain ⟨y2, f2, g2⟩ := fN w 256 16 (by decide)
    obtain ⟨y3, f3, g3⟩ := fN w 128 2 (by decide)
    rw [e0, e1, e2, e3, e4, e5, e6, e7, e8, f1, f2, f3]
    clear e0 e1 e2 e3 e4 e5 e6 e7 e8 f1 f2 f3
    rcases forms o with e | e | e | e | e | e | e | e
    · exact absurd e hf
    all_goals
      rw [e]
      simp (config := { decide := true }) only [Int.reduceBEq, cond_true, cond_false, tm0, bb2, Option.getD_some, if_true, if_false]
    all_goals first | rfl | skip
    all_goals
      rw [decide_eq_true_eq]
      first | (split <;> omega) | omega
  have hfb : (formOf o != 0) = true := by simpa using hf
  unfold rightB
  simp only [Bool.and_eq_true]
  exact ⟨⟨⟨⟨hfb, hr (hasD (formOf o)) (w / 128 % 32) (Nat.mod_lt _ (by decide))⟩, hr (has1 (formOf o)) (w / 32768 % 32) (Nat.mod_lt _ (by decide))⟩, hr (has2 (formOf o)) (w / 1048576 % 32) (Nat.mod_lt _ (by decide))⟩, hi⟩
def sprN (f : Int) (w : Nat) : Nat :=
  if f = 85 then w / 4096 % 1048576 * 4096
  else if f = 74 then w / 2147483648 % 2 * 2147483648 + w / 2097152 % 1024 * 2097152 + w / 1048576 % 2 * 1048576 + w / 4096 % 256 * 4096
  else if f = 73 then w / 1048576 % 4096 * 1048576
  else if f = 72 then w / 1048576 % 32 * 1048576
  else if f = 83 then w / 128 % 32 * 128 + w / 33554432 % 128 * 33554432
  else if f = 66 then w / 2147483648 % 2 * 2147483648 + w / 33554432 % 64 * 33554432 + w / 256 % 16 * 256 + w / 128 % 2 * 128
  else 0
def immN (f : Int) (w : Nat) : Nat :=
  if f = 85 then w / 4096 % 1048576 * 4096
  else if f = 74 then w / 2097152 % 1024 * 2 + w / 1048576 % 2 * 2048 + w / 4096 % 256 * 4096 + w / 2147483648 % 2 * 4293918720
  else if f = 73 then (if 2048 ≤ w / 1048576 % 4096 then w / 1048576 % 4096 + 4294963200 else w / 1048576 % 4096)
  else if f = 72 then w / 1048576 % 32
  else if f = 83 then (if 64 ≤ w / 33554432 % 128 then w / 33554432 % 128 * 32 + w / 128 % 32 + 4294963200 else w / 33554432 % 128 * 32 + w / 128 % 32)
  else if f = 66 then w / 33554432 % 64 * 32 + w / 256 % 16 * 2 + w / 128 % 2 * 2048 + w / 2147483648 % 2 * 4294963200
  else 0
theorem immN_at (f : Int) (w : Nat) : immN f w < 4294967296 ∧ ((immF f w < 0 ∧ immF f w + 4294967296 = (immN f w : Int)) ∨ (0 ≤ immF f w ∧ immF f w = (immN f w : Int))) := by
  unfold immN immF
  obtain ⟨x0, e0, h0⟩ := fN w 4096 1048576 (by decide)
  obtain ⟨x1, e1, h1⟩ := fN w 2147483648 2 (by decide)
  obtain ⟨x2, e2, h2⟩ := fN w 2097152 1024 (by decide)
  obtain ⟨x3, e3, h3⟩ := fN w 1048576 2 (by decide)
  obtain ⟨x4, e4, h4⟩ := fN w 4096 256 (by decide)
  obtain ⟨x5, e5, h5⟩ := fN w 1048576 4096 (by decide)
  obtain ⟨x6, e6, h6⟩ := fN w 1048576 32 (by decide)
  obtain ⟨x7, e7, h7⟩ := fN w 33554432 128 (by decide)
  obtain ⟨x8, e8, h8⟩ := fN w 128 32 (by decide)
  obtain ⟨y1, f1, g1⟩ := fN w 33554432 64 (by decide)
  obtain ⟨y2, f2, g2⟩ := fN w 256 16 (by decide)
  obtain ⟨y3, f3, g3⟩ := fN w 128 2 (by decide)
  rw [e0, e1, e2, e3, e4, e5, e6, e7, e8, f1, f2, f3]
  clear e0 e1 e2 e3 e4 e5 e6 e7 e8 f1 f2 f3
  by_cases h : f = 85
  · rw [if_pos h, if_pos h]; clear h1 h2 h3 h4 h5 h6 h7 h8 g1 g2 g3; split <;> omega
  rw [if_neg h, if_neg h]
  by_cases h : f = 74
  · rw [if_pos h, if_pos h]; clear h0 h5 h6 h7 h8 g1 g2 g3; omega
  rw [if_neg h, if_neg h]
  by_cases h : f = 73
  · rw [if_pos h, if_pos h]; clear h0 h1 h2 h3 h4 h6 h7 h8 g1 g2 g3; split <;> omega
  rw [if_neg h, if_neg h]
  by_cases h : f = 72
  · rw [if_pos h, if_pos h]; clear h0 h1 h2 h3 h4 h5 h7 h8 g1 g2 g3; omega
  rw [if_neg h, if_neg h]
  by_cases h : f = 83
  · rw [if_pos h, if_pos h]; clear h0 h1 h2 h3 h4 h5 h6 g1 g2 g3; split <;> omega
  rw [if_neg h, if_neg h]
  by_cases h : f = 66
  · rw [if_pos h, if_pos h]; clear h0 h2 h3 h4 h5 h6 h7 h8; omega
  rw [if_neg h, if_neg h]
  omega
theorem mvP {n : Int} {w : Nat} (hw : w < 4294967296) (h : (n < 0 ∧ n + 4294967296 = (w : Int)) ∨ (0 ≤ n ∧ n = (w : Int))) {a b c : Int} {p q r : Nat} (ha : 0 ≤ a ∧ a ≤ b ∧ b < 32) (hc : 0 ≤ c ∧ c + (b - a + 1) ≤ 32)
    (hp : 2 ^ a.toNat = p) (hq : 2 ^ (b - a + 1).toNat = q) (hr : 2 ^ c.toNat = r) : ref02_move n a b c = some ((w / p % q * r : Nat) : Int) := by
  subst hp hq hr
  exact move_eq hw h ha hc
theorem w64_2 {a b : Int} (ha : 0 ≤ a ∧ a ≤ 4294967296) (hb : 0 ≤ b ∧ b ≤ 4294967296) : IntKind.wrap .i64 (a + b) = a + b := w64 (by omega)
theorem w64_4 {a b c d : Int} (ha : 0 ≤ a ∧ a ≤ 4294967296) (hb : 0 ≤ b ∧ b ≤ 4294967296) (hc : 0 ≤ c ∧ c ≤ 4294967296) (hd : 0 ≤ d ∧ d ≤ 4294967296) :
    IntKind.wrap .i64 (IntKind.wrap .i64 (IntKind.wrap .i64 (a + b) + c) + d) = a + b + c + d := by
  rw [w64 (x := a + b) (by omega), w64 (x := a + b + c) (by omega), w64 (by omega)]
theorem Spread_eq {w : Nat} {o : Int} (hf : formOf o ≠ 0) : ref02_Spread (formOf o) (immF (formOf o) w) = some ((sprN (formOf o) w : Nat) : Int) := by
  obtain ⟨hN, hA⟩ := immN_at (formOf o) w
  have mv := fun {a b c : Int} {p q r : Nat} ha hc hp hq hr => mvP hN hA (a := a) (b := b) (c := c) (p := p) (q := q) (r := r) ha hc hp hq hr
  clear hN hA
  unfold ref02_Spread sprN
  unfold immN at mv
  generalize immF (formOf o) w = n at mv ⊢
  obtain ⟨x0, e0, h0⟩ := fN w 4096 1048576 (by decide)
  obtain ⟨x1, e1, h1⟩ := fN w 2147483648 2 (by decide)
  obtain ⟨x2, e2, h2⟩ := fN w 2097152 1024 (by decide)
  obtain ⟨x3, e3, h3⟩ := fN w 1048576 2 (by decide)
  obtain ⟨x4, e4, h4⟩ := fN w 4096 256 (by decide)
  obtain ⟨x5, e5, h5⟩ := fN w 1048576 4096 (by decide)
  obtain ⟨x6, e6, h6⟩ := fN w 1048576 32 (by decide)
  obtain ⟨x7, e7, h7⟩ := fN w 33554432 128 (by decide)
  obtain ⟨x8, e8, h8⟩ := fN w 128 32 (by decide)
  obtain ⟨y1, f1, g1⟩ := fN w 33554432 64 (by decide)
  obtain ⟨y2, f2, g2⟩ := fN w 256 16 (by decide)
  obtain ⟨y3, f3, g3⟩ := fN w 128 2 (by decide)
  rw [e0, e1, e2, e3, e4, e5, e6, e7, e8, f1, f2, f3]
  simp only [e0, e1, e2, e3, e4, e5, e6, e7, e8, f1, f2, f3] at mv
  clear e0 e1 e2 e3 e4 e5 e6 e7 e8 f1 f2 f3
  have cf : ∀ {a b : Int} {A : Type} {x y : A}, a ≠ b → (bif a == b then x else y) = y := fun h => c0 (by simpa using h)
  have ct : ∀ {a : Int} {A : Type} {x y : A}, (bif a == a then x else y) = x := c1 (by simp)
  generalize formOf o = f at *
  by_cases h : f = 85
  · subst h
    simp only [if_true] at mv ⊢
    rw [ct, mv (a := 12) (b := 31) (c := 12) (p := 4096) (q := 1048576) (r := 4096) (by decide) (by decide) (by decide) (by decide) (by decide), Option.bind_some]
    clear mv cf ct
    refine congrArg (fun z : Nat => some (z : Int)) ?_
    omega
  rw [if_neg h, cf h]; simp only [if_neg h] at mv
  by_cases h : f = 74
  · subst h
    simp only [if_true] at mv ⊢
    rw [ct, mv (a := 20) (b := 20) (c := 31) (p := 1048576) (q := 2) (r := 2147483648) (by decide) (by decide) (by decide) (by decide) (by decide), Option.bind_some,
      mv (a := 1) (b := 10) (c := 21) (p := 2) (q := 1024) (r := 2097152) (by decide) (by decide) (by decide) (by decide) (by decide), Option.bind_some,
      mv (a := 11) (b := 11) (c := 20) (p := 2048) (q := 2) (r := 1048576) (by decide) (by decide) (by decide) (by decide) (by decide), Option.bind_some,
      mv (a := 12) (b := 19) (c := 12) (p := 4096) (q := 256) (r := 4096) (by decide) (by decide) (by decide) (by decide) (by decide), Option.bind_some]
    clear mv cf ct
    have q0 : (x2 * 2 + x3 * 2048 + x4 * 4096 + x1 * 4293918720) / 1048576 % 2 = x1 := by omega
    have q1 : (x2 * 2 + x3 * 2048 + x4 * 4096 + x1 * 4293918720) / 2 % 1024 = x2 := by omega
    have q2 : (x2 * 2 + x3 * 2048 + x4 * 4096 + x1 * 4293918720) / 2048 % 2 = x3 := by omega
    have q3 : (x2 * 2 + x3 * 2048 + x4 * 4096 + x1 * 4293918720) / 4096 % 256 = x4 := by omega
    simp only [q0, q1, q2, q3]
    exact congrArg some ((w64_4 (by omega) (by omega) (by omega) (by omega)).trans (by omega))
  rw [if_neg h, cf h]; simp only [if_neg h] at mv
  by_cases h : f = 73
  · subst h
    simp only [if_true] at mv ⊢
    rw [ct, mv (a := 0) (b := 11) (c := 20) (p := 1) (q := 4096) (r := 1048576) (by decide) (by decide) (by decide) (by decide) (by decide), Option.bind_some]
    clear mv cf ct
    refine congrArg (fun z : Nat => some (z : Int)) ?_
    split <;> omega
  rw [if_neg h, cf h]; simp only [if_neg h] at mv
  by_cases h : f = 72
  · subst h
    simp only [if_true] at mv ⊢
    rw [ct, mv (a := 0) (b := 4) (c := 20) (p := 1) (q := 32) (r := 1048576) (by decide) (by decide) (by decide) (by decide) (by decide), Option.bind_some]
    clear mv cf ct
    refine congrArg (fun z : Nat => some (z : Int)) ?_
    omega
  rw [if_neg h, cf h]; simp only [if_neg h] at mv
  by_cases h : f = 83
  · subst h
    simp only [if_true] at mv ⊢
    rw [ct, mv (a := 0) (b := 4) (c := 7) (p := 1) (q := 32) (r := 128) (by decide) (by decide) (by decide) (by decide) (by decide), Option.bind_some,
      mv (a := 5) (b := 11) (c := 25) (p := 32) (q := 128) (r := 33554432) (by decide) (by decide) (by decide) (by decide) (by decide), Option.bind_some]
    clear mv cf ct
    have z1 : (if 64 ≤ x7 then x7 * 32 + x8 + 4294963200 else x7 * 32 + x8) / 1 % 32 = x8 := by split <;> omega
    have z2 : (if 64 ≤ x7 then x7 * 32 + x8 + 4294963200 else x7 * 32 + x8) / 32 % 128 = x7 := by split <;> omega
    simp only [z1, z2]
    exact congrArg some ((w64_2 (by omega) (by omega)).trans (by omega))
  rw [if_neg h, cf h]; simp only [if_neg h] at mv
  by_cases h : f = 66
  · subst h
    simp only [if_true] at mv ⊢
    rw [ct, mv (a := 12) (b := 12) (c := 31) (p := 4096) (q := 2) (r := 2147483648) (by decide) (by decide) (by decide) (by decide) (by decide), Option.bind_some,
      mv (a := 5) (b := 10) (c := 25) (p := 32) (q := 64) (r := 33554432) (by decide) (by decide) (by decide) (by decide) (by decide), Option.bind_some,
      mv (a := 1) (b := 4) (c := 8) (p := 2) (q := 16) (r := 256) (by decide) (by decide) (by decide) (by decide) (by decide), Option.bind_some,
      mv (a := 11) (b := 11) (c := 7) (p := 2048) (q := 2) (r := 128) (by decide) (by decide) (by decide) (by decide) (by decide), Option.bind_some]
    clear mv cf ct
    have q0 : (y1 * 32 + y2 * 2 + y3 * 2048 + x1 * 4294963200) / 4096 % 2 = x1 := by omega
    have q1 : (y1 * 32 + y2 * 2 + y3 * 2048 + x1 * 4294963200) / 32 % 64 = y1 := by omega
    have q2 : (y1 * 32 + y2 * 2 + y3 * 2048 + x1 * 4294963200) / 2 % 16 = y2 := by omega
    have q3 : (y1 * 32 + y2 * 2 + y3 * 2048 + x1 * 4294963200) / 2048 % 2 = y3 := by omega
    simp only [q0, q1, q2, q3]
    exact congrArg some ((w64_4 (by omega) (by omega) (by omega) (by omega)).trans (by omega))
  rw [if_neg h, cf h]
  rfl
theorem dcmp82 {w : Nat} (hw : w < 4294967296) : w = w % 128 + w / 128 % 32 * 128 + w / 4096 % 8 * 4096 + w / 32768 % 32 * 32768 + w / 1048576 % 32 * 1048576 + w / 33554432 % 128 * 33554432 := by
  have h1 : w / 128 = w / 128 % 32 + w / 4096 * 32 := by omega
  have h2 : w / 4096 = w / 4096 % 8 + w / 32768 * 8 := by omega
  have h3 : w / 32768 = w / 32768 % 32 + w / 1048576 * 32 := by omega
  have h4 : w / 1048576 = w / 1048576 % 32 + w / 33554432 * 32 := by omega
  have hl : w / 33554432 % 128 = w / 33554432 := by omega
  have h0 : w = w % 128 + w / 128 * 128 := by omega
  rw [hl]
  generalize w % 128 = x0 at *
  generalize w / 128 % 32 = x1 at *
  generalize w / 4096 % 8 = x2 at *
  generalize w / 32768 % 32 = x3 at *
  generalize w / 1048576 % 32 = x4 at *
  generalize w / 33554432 = y5 at *
  generalize w / 128 = y1 at *
  generalize w / 4096 = y2 at *
  generalize w / 32768 = y3 at *
  generalize w / 1048576 = y4 at *
  omega
theorem dcmp72 {w : Nat} (hw : w < 4294967296) : w = w % 128 + w / 128 % 32 * 128 + w / 4096 % 8 * 4096 + w / 32768 % 32 * 32768 + w / 1048576 % 32 * 1048576 + w / 33554432 % 128 * 33554432 := by
  have h1 : w / 128 = w / 128 % 32 + w / 4096 * 32 := by omega
  have h2 : w / 4096 = w / 4096 % 8 + w / 32768 * 8 := by omega
  have h3 : w / 32768 = w / 32768 % 32 + w / 1048576 * 32 := by omega
  have h4 : w / 1048576 = w / 1048576 % 32 + w / 33554432 * 32 := by omega
  have hl : w / 33554432 % 128 = w / 33554432 := by omega
  have h0 : w = w % 128 + w / 128 * 128 := by omega
  rw [hl]
  generalize w % 128 = x0 at *
  generalize w / 128 % 32 = x1 at *
  generalize w / 4096 % 8 = x2 at *
  generalize w / 32768 % 32 = x3 at *
  generalize w / 1048576 % 32 = x4 at *
  generalize w / 33554432 = y5 at *
  generalize w / 128 = y1 at *
  generalize w / 4096 = y2 at *
  generalize w / 32768 = y3 at *
  generalize w / 1048576 = y4 at *
  omega
theorem dcmp85 {w : Nat} (hw : w < 4294967296) : w = w % 128 + w / 128 % 32 * 128 + w / 4096 % 1048576 * 4096 := by
  have h1 : w / 128 = w / 128 % 32 + w / 4096 * 32 := by omega
  have hl : w / 4096 % 1048576 = w / 4096 := by omega
  have h0 : w = w % 128 + w / 128 * 128 := by omega
  rw [hl]
  generalize w % 128 = x0 at *
  generalize w / 128 % 32 = x1 at *
  generalize w / 4096 = y2 at *
  generalize w / 128 = y1 at *
  omega
theorem dcmp74 {w : Nat} (hw : w < 4294967296) : w = w % 128 + w / 128 % 32 * 128 + w / 4096 % 256 * 4096 + w / 1048576 % 2 * 1048576 + w / 2097152 % 1024 * 2097152 + w / 2147483648 % 2 * 2147483648 := by
  have h1 : w / 128 = w / 128 % 32 + w / 4096 * 32 := by omega
  have h2 : w / 4096 = w / 4096 % 256 + w / 1048576 * 256 := by omega
  have h3 : w / 1048576 = w / 1048576 % 2 + w / 2097152 * 2 := by omega
  have h4 : w / 2097152 = w / 2097152 % 1024 + w / 2147483648 * 1024 := by omega
  have hl : w / 2147483648 % 2 = w / 2147483648 := by omega
  have h0 : w = w % 128 + w / 128 * 128 := by omega
  rw [hl]
  generalize w % 128 = x0 at *
  generalize w / 128 % 32 = x1 at *
  generalize w / 4096 % 256 = x2 at *
  generalize w / 1048576 % 2 = x3 at *
  generalize w / 2097152 % 1024 = x4 at *
  generalize w / 2147483648 = y5 at *
  generalize w / 128 = y1 at *
  generalize w / 4096 = y2 at *
  generalize w / 1048576 = y3 at *
  generalize w / 2097152 = y4 at *
  omega
theorem dcmp66 {w : Nat} (hw : w < 4294967296) : w = w % 128 + w / 128 % 2 * 128 + w / 256 % 16 * 256 + w / 4096 % 8 * 4096 + w / 32768 % 32 * 32768 + w / 1048576 % 32 * 1048576 + w / 33554432 % 64 * 33554432 + w / 2147483648 % 2 * 2147483648 := by
  have h1 : w / 128 = w / 128 % 2 + w / 256 * 2 := by omega
  have h2 : w / 256 = w / 256 % 16 + w / 4096 * 16 := by omega
  have h3 : w / 4096 = w / 4096 % 8 + w / 32768 * 8 := by omega
  have h4 : w / 32768 = w / 32768 % 32 + w / 1048576 * 32 := by omega
  have h5 : w / 1048576 = w / 1048576 % 32 + w / 33554432 * 32 := by omega
  have h6 : w / 33554432 = w / 33554432 % 64 + w / 2147483648 * 64 := by omega
  have hl : w / 2147483648 % 2 = w / 2147483648 := by omega
  have h0 : w = w % 128 + w / 128 * 128 := by omega
  rw [hl]
  generalize w % 128 = x0 at *
  generalize w / 128 % 2 = x1 at *
  generalize w / 256 % 16 = x2 at *
  generalize w / 4096 % 8 = x3 at *
  generalize w / 32768 % 32 = x4 at *
  generalize w / 1048576 % 32 = x5 at *
  generalize w / 33554432 % 64 = x6 at *
  generalize w / 2147483648 = y7 at *
  generalize w / 128 = y1 at *
  generalize w / 256 = y2 at *
  generalize w / 4096 = y3 at *
  generalize w / 32768 = y4 at *
  generalize w / 1048576 = y5 at *
  generalize w / 33554432 = y6 at *
  omega
theorem dcmp83 {w : Nat} (hw : w < 4294967296) : w = w % 128 + w / 128 % 32 * 128 + w / 4096 % 8 * 4096 + w / 32768 % 32 * 32768 + w / 1048576 % 32 * 1048576 + w / 33554432 % 128 * 33554432 := by
  have h1 : w / 128 = w / 128 % 32 + w / 4096 * 32 := by omega
  have h2 : w / 4096 = w / 4096 % 8 + w / 32768 * 8 := by omega
  have h3 : w / 32768 = w / 32768 % 32 + w / 1048576 * 32 := by omega
  have h4 : w / 1048576 = w / 1048576 % 32 + w / 33554432 * 32 := by omega
  have hl : w / 33554432 % 128 = w / 33554432 := by omega
  have h0 : w = w % 128 + w / 128 * 128 := by omega
  rw [hl]
  generalize w % 128 = x0 at *
  generalize w / 128 % 32 = x1 at *
  generalize w / 4096 % 8 = x2 at *
  generalize w / 32768 % 32 = x3 at *
  generalize w / 1048576 % 32 = x4 at *
  generalize w / 33554432 = y5 at *
  generalize w / 128 = y1 at *
  generalize w / 4096 = y2 at *
  generalize w / 32768 = y3 at *
  generalize w / 1048576 = y4 at *
  omega
theorem dcmp73 {w : Nat} (hw : w < 4294967296) : w = w % 128 + w / 128 % 32 * 128 + w / 4096 % 8 * 4096 + w / 32768 % 32 * 32768 + w / 1048576 % 4096 * 1048576 := by
  have h1 : w / 128 = w / 128 % 32 + w / 4096 * 32 := by omega
  have h2 : w / 4096 = w / 4096 % 8 + w / 32768 * 8 := by omega
  have h3 : w / 32768 = w / 32768 % 32 + w / 1048576 * 32 := by omega
  have hl : w / 1048576 % 4096 = w / 1048576 := by omega
  have h0 : w = w % 128 + w / 128 * 128 := by omega
  rw [hl]
  generalize w % 128 = x0 at *
  generalize w / 128 % 32 = x1 at *
  generalize w / 4096 % 8 = x2 at *
  generalize w / 32768 % 32 = x3 at *
  generalize w / 1048576 = y4 at *
  generalize w / 128 = y1 at *
  generalize w / 4096 = y2 at *
  generalize w / 32768 = y3 at *
  omega
theorem sum82 {w c t s : Nat} (hw : w < 4294967296) (hc : c < 128) (ht : t < 8) (hs : s < 128) : c + w / 128 % 32 * 128 + t * 4096 + w / 32768 % 32 * 32768 + w / 1048576 % 32 * 1048576 + s * 33554432 + (0) < 4294967296 ∧ (c + w / 128 % 32 * 128 + t * 4096 + w / 32768 % 32 * 32768 + w / 1048576 % 32 * 1048576 + s * 33554432 + (0) = w ↔ w % 128 = c ∧ w / 4096 % 8 = t ∧ w / 33554432 % 128 = s) := by
  have hp := dcmp82 hw
  obtain ⟨x0, e0, g0⟩ := fN w 1 128 (by decide)
  rw [Nat.div_one] at e0
  obtain ⟨x1, e1, g1⟩ := fN w 128 32 (by decide)
  obtain ⟨x2, e2, g2⟩ := fN w 4096 8 (by decide)
  obtain ⟨x3, e3, g3⟩ := fN w 32768 32 (by decide)
  obtain ⟨x4, e4, g4⟩ := fN w 1048576 32 (by decide)
  obtain ⟨x5, e5, g5⟩ := fN w 33554432 128 (by decide)
  rw [e0, e1, e2, e3, e4, e5] at hp ⊢
  clear e0 e1 e2 e3 e4 e5
  omega
theorem sum72 {w c t s : Nat} (hw : w < 4294967296) (hc : c < 128) (ht : t < 8) (hs : s < 128) : c + w / 128 % 32 * 128 + t * 4096 + w / 32768 % 32 * 32768 + 0 * 1048576 + s * 33554432 + (w / 1048576 % 32 * 1048576) < 4294967296 ∧ (c + w / 128 % 32 * 128 + t * 4096 + w / 32768 % 32 * 32768 + 0 * 1048576 + s * 33554432 + (w / 1048576 % 32 * 1048576) = w ↔ w % 128 = c ∧ w / 4096 % 8 = t ∧ w / 33554432 % 128 = s) := by
  have hp := dcmp72 hw
  obtain ⟨x0, e0, g0⟩ := fN w 1 128 (by decide)
  rw [Nat.div_one] at e0
  obtain ⟨x1, e1, g1⟩ := fN w 128 32 (by decide)
  obtain ⟨x2, e2, g2⟩ := fN w 4096 8 (by decide)
  obtain ⟨x3, e3, g3⟩ := fN w 32768 32 (by decide)
  obtain ⟨x4, e4, g4⟩ := fN w 1048576 32 (by decide)
  obtain ⟨x5, e5, g5⟩ := fN w 33554432 128 (by decide)
  rw [e0, e1, e2, e3, e4, e5] at hp ⊢
  clear e0 e1 e2 e3 e4 e5
  omega
theorem sum85 {w c t s : Nat} (hw : w < 4294967296) (hc : c < 128) (ht : t < 8) (hs : s < 128) : c + w / 128 % 32 * 128 + 0 * 4096 + 0 * 32768 + 0 * 1048576 + 0 * 33554432 + (w / 4096 % 1048576 * 4096) < 4294967296 ∧ (c + w / 128 % 32 * 128 + 0 * 4096 + 0 * 32768 + 0 * 1048576 + 0 * 33554432 + (w / 4096 % 1048576 * 4096) = w ↔ w % 128 = c) := by
  have hp := dcmp85 hw
  obtain ⟨x0, e0, g0⟩ := fN w 1 128 (by decide)
  rw [Nat.div_one] at e0
  obtain ⟨x1, e1, g1⟩ := fN w 128 32 (by decide)
  obtain ⟨x2, e2, g2⟩ := fN w 4096 1048576 (by decide)
  rw [e0, e1, e2] at hp ⊢
  clear e0 e1 e2
  omega
theorem sum74 {w c t s : Nat} (hw : w < 4294967296) (hc : c < 128) (ht : t < 8) (hs : s < 128) : c + w / 128 % 32 * 128 + 0 * 4096 + 0 * 32768 + 0 * 1048576 + 0 * 33554432 + (w / 2147483648 % 2 * 2147483648 + w / 2097152 % 1024 * 2097152 + w / 1048576 % 2 * 1048576 + w / 4096 % 256 * 4096) < 4294967296 ∧ (c + w / 128 % 32 * 128 + 0 * 4096 + 0 * 32768 + 0 * 1048576 + 0 * 33554432 + (w / 2147483648 % 2 * 2147483648 + w / 2097152 % 1024 * 2097152 + w / 1048576 % 2 * 1048576 + w / 4096 % 256 * 4096) = w ↔ w % 128 = c) := by
  have hp := dcmp74 hw
  obtain ⟨x0, e0, g0⟩ := fN w 1 128 (by decide)
  rw [Nat.div_one] at e0
  obtain ⟨x1, e1, g1⟩ := fN w 128 32 (by decide)
  obtain ⟨x2, e2, g2⟩ := fN w 4096 256 (by decide)
  obtain ⟨x3, e3, g3⟩ := fN w 1048576 2 (by decide)
  obtain ⟨x4, e4, g4⟩ := fN w 2097152 1024 (by decide)
  obtain ⟨x5, e5, g5⟩ := fN w 2147483648 2 (by decide)
  rw [e0, e1, e2, e3, e4, e5] at hp ⊢
  clear e0 e1 e2 e3 e4 e5
  omega
theorem sum66 {w c t s : Nat} (hw : w < 4294967296) (hc : c < 128) (ht : t < 8) (hs : s < 128) : c + 0 * 128 + t * 4096 + w / 32768 % 32 * 32768 + w / 1048576 % 32 * 1048576 + 0 * 33554432 + (w / 2147483648 % 2 * 2147483648 + w / 33554432 % 64 * 33554432 + w / 256 % 16 * 256 + w / 128 % 2 * 128) < 4294967296 ∧ (c + 0 * 128 + t * 4096 + w / 32768 % 32 * 32768 + w / 1048576 % 32 * 1048576 + 0 * 33554432 + (w / 2147483648 % 2 * 2147483648 + w / 33554432 % 64 * 33554432 + w / 256 % 16 * 256 + w / 128 % 2 * 128) = w ↔ w % 128 = c ∧ w / 4096 % 8 = t) := by
  have hp := dcmp66 hw
  obtain ⟨x0, e0, g0⟩ := fN w 1 128 (by decide)
  rw [Nat.div_one] at e0
  obtain ⟨x1, e1, g1⟩ := fN w 128 2 (by decide)
  obtain ⟨x2, e2, g2⟩ := fN w 256 16 (by decide)
  obtain ⟨x3, e3, g3⟩ := fN w 4096 8 (by decide)
  obtain ⟨x4, e4, g4⟩ := fN w 32768 32 (by decide)
  obtain ⟨x5, e5, g5⟩ := fN w 1048576 32 (by decide)
  obtain ⟨x6, e6, g6⟩ := fN w 33554432 64 (by decide)
  obtain ⟨x7, e7, g7⟩ := fN w 2147483648 2 (by decide)
  rw [e0, e1, e2, e3, e4, e5, e6, e7] at hp ⊢
  clear e0 e1 e2 e3 e4 e5 e6 e7
  omega
theorem sum83 {w c t s : Nat} (hw : w < 4294967296) (hc : c < 128) (ht : t < 8) (hs : s < 128) : c + 0 * 128 + t * 4096 + w / 32768 % 32 * 32768 + w / 1048576 % 32 * 1048576 + 0 * 33554432 + (w / 128 % 32 * 128 + w / 33554432 % 128 * 33554432) < 4294967296 ∧ (c + 0 * 128 + t * 4096 + w / 32768 % 32 * 32768 + w / 1048576 % 32 * 1048576 + 0 * 33554432 + (w / 128 % 32 * 128 + w / 33554432 % 128 * 33554432) = w ↔ w % 128 = c ∧ w / 4096 % 8 = t) := by
  have hp := dcmp83 hw
  obtain ⟨x0, e0, g0⟩ := fN w 1 128 (by decide)
  rw [Nat.div_one] at e0
  obtain ⟨x1, e1, g1⟩ := fN w 128 32 (by decide)
  obtain ⟨x2, e2, g2⟩ := fN w 4096 8 (by decide)
  obtain ⟨x3, e3, g3⟩ := fN w 32768 32 (by decide)
  obtain ⟨x4, e4, g4⟩ := fN w 1048576 32 (by decide)
  obtain ⟨x5, e5, g5⟩ := fN w 33554432 128 (by decide)
  rw [e0, e1, e2, e3, e4, e5] at hp ⊢
  clear e0 e1 e2 e3 e4 e5
  omega
theorem sum73 {w c t s : Nat} (hw : w < 4294967296) (hc : c < 128) (ht : t < 8) (hs : s < 128) : c + w / 128 % 32 * 128 + t * 4096 + w / 32768 % 32 * 32768 + 0 * 1048576 + 0 * 33554432 + (w / 1048576 % 4096 * 1048576) < 4294967296 ∧ (c + w / 128 % 32 * 128 + t * 4096 + w / 32768 % 32 * 32768 + 0 * 1048576 + 0 * 33554432 + (w / 1048576 % 4096 * 1048576) = w ↔ w % 128 = c ∧ w / 4096 % 8 = t) := by
  have hp := dcmp73 hw
  obtain ⟨x0, e0, g0⟩ := fN w 1 128 (by decide)
  rw [Nat.div_one] at e0
  obtain ⟨x1, e1, g1⟩ := fN w 128 32 (by decide)
  obtain ⟨x2, e2, g2⟩ := fN w 4096 8 (by decide)
  obtain ⟨x3, e3, g3⟩ := fN w 32768 32 (by decide)
  obtain ⟨x4, e4, g4⟩ := fN w 1048576 4096 (by decide)
  rw [e0, e1, e2, e3, e4] at hp ⊢
  clear e0 e1 e2 e3 e4
  omega
theorem w64_7 {a b c d e f g : Int} (ha : 0 ≤ a ∧ a ≤ 4294967296) (hb : 0 ≤ b ∧ b ≤ 4294967296) (hc : 0 ≤ c ∧ c ≤ 4294967296) (hd : 0 ≤ d ∧ d ≤ 4294967296) (he : 0 ≤ e ∧ e ≤ 4294967296) (hf : 0 ≤ f ∧ f ≤ 4294967296) (hg : 0 ≤ g ∧ g ≤ 4294967296) :
    IntKind.wrap .i64 (IntKind.wrap .i64 (IntKind.wrap .i64 (IntKind.wrap .i64 (IntKind.wrap .i64 (IntKind.wrap .i64 (a + b) + c) + d) + e) + f) + g) = a + b + c + d + e + f + g := by
  rw [w64 (x := a + b) (by omega), w64 (x := a + b + c) (by omega), w64 (x := a + b + c + d) (by omega), w64 (x := a + b + c + d + e) (by omega), w64 (x := a + b + c + d + e + f) (by omega), w64 (by omega)]
theorem Word_sum {i : GInst} {c t s d a b n : Nat} (hd : i.Rd = (d : Int)) (ha : i.Rs1 = (a : Int)) (hb : i.Rs2 = (b : Int)) (kc : ref02_Code i.Op = some (c : Int)) (kt : ref02_Third i.Op = some (t : Int)) (ks : ref02_Seventh i.Op = some (s : Int))
    (kn : ref02_Spread (formOf i.Op) i.Imm = some (n : Int)) (h : c + d * 128 + t * 4096 + a * 32768 + b * 1048576 + s * 33554432 + n < 4294967296) :
    ref02_Word i = some ((c + d * 128 + t * 4096 + a * 32768 + b * 1048576 + s * 33554432 + n : Nat) : Int) := by
  unfold ref02_Word
  rw [rForm_eq, Option.bind_some, kc, Option.bind_some, two_eq (by decide), Option.bind_some, kt, Option.bind_some, two_eq (by decide), Option.bind_some, two_eq (by decide), Option.bind_some, two_eq (by decide), Option.bind_some, ks, Option.bind_some, two_eq (by decide), Option.bind_some, kn, Option.bind_some, hd, ha, hb]
  rw [show ((2 ^ Int.toNat 7 : Nat) : Int) = 128 by decide, show ((2 ^ Int.toNat 12 : Nat) : Int) = 4096 by decide, show ((2 ^ Int.toNat 15 : Nat) : Int) = 32768 by decide, show ((2 ^ Int.toNat 20 : Nat) : Int) = 1048576 by decide, show ((2 ^ Int.toNat 25 : Nat) : Int) = 33554432 by decide]
  have e1 : IntKind.wrap .i64 ((d : Int) * 128) = (d : Int) * 128 := w64 (by omega)
  have e2 : IntKind.wrap .i64 ((t : Int) * 4096) = (t : Int) * 4096 := w64 (by omega)
  have e3 : IntKind.wrap .i64 ((a : Int) * 32768) = (a : Int) * 32768 := w64 (by omega)
  have e4 : IntKind.wrap .i64 ((b : Int) * 1048576) = (b : Int) * 1048576 := w64 (by omega)
  have e5 : IntKind.wrap .i64 ((s : Int) * 33554432) = (s : Int) * 33554432 := w64 (by omega)
  rw [e1, e2, e3, e4, e5]
  rw [w64_7 (by omega) (by omega) (by omega) (by omega) (by omega) (by omega) (by omega)]
  have g : (c : Int) + (d : Int) * 128 + (t : Int) * 4096 + (a : Int) * 32768 + (b : Int) * 1048576 + (s : Int) * 33554432 + (n : Int) = ((c + d * 128 + t * 4096 + a * 32768 + b * 1048576 + s * 33554432 + n : Nat) : Int) := by omega
  rw [g, w32u' h]
theorem fit82 {w : Nat} (hw : w < 4294967296) {o : Int} (e : formOf o = 82) : Fits o w ↔ w % 128 = cNq o ∧ w / 4096 % 8 = tN o ∧ w / 33554432 % 128 = sNq o := by
  unfold Fits
  rw [e]
  omega
theorem wd82 {w : Nat} (hw : w < 4294967296) {o : Int} (ho : 1 ≤ o ∧ o ≤ 45) (e : formOf o = 82) : ∃ v : Nat, ref02_Word (decI o w) = some (v : Int) ∧ (v = w ↔ Fits o w) := by
  obtain ⟨⟨c1, c2, c3⟩, ⟨h1, h2, h3⟩, ⟨k1, k2, k3⟩, hf, z1, z2⟩ := op_parts ho
  have hS := sum82 (c := cNq o) (t := tN o) (s := sNq o) hw h1 h2 h3
  have hN : sprN (formOf o) w = 0 := by rw [e]; rfl
  have hd : (decI o w).Rd = ((w / 128 % 32 : Nat) : Int) := by unfold decI; rw [e]; rfl
  have ha : (decI o w).Rs1 = ((w / 32768 % 32 : Nat) : Int) := by unfold decI; rw [e]; rfl
  have hb : (decI o w).Rs2 = ((w / 1048576 % 32 : Nat) : Int) := by unfold decI; rw [e]; rfl
  have kn := Spread_eq (w := w) hf
  rw [hN] at kn
  exact ⟨_, Word_sum hd ha hb k1 k2 k3 kn hS.1, hS.2.trans (fit82 hw e).symm⟩
theorem fit72 {w : Nat} (hw : w < 4294967296) {o : Int} (e : formOf o = 72) : Fits o w ↔ w % 128 = cNq o ∧ w / 4096 % 8 = tN o ∧ w / 33554432 % 128 = sNq o := by
  unfold Fits
  rw [e]
  omega
theorem wd72 {w : Nat} (hw : w < 4294967296) {o : Int} (ho : 1 ≤ o ∧ o ≤ 45) (e : formOf o = 72) : ∃ v : Nat, ref02_Word (decI o w) = some (v : Int) ∧ (v = w ↔ Fits o w) := by
  obtain ⟨⟨c1, c2, c3⟩, ⟨h1, h2, h3⟩, ⟨k1, k2, k3⟩, hf, z1, z2⟩ := op_parts ho
  have hS := sum72 (c := cNq o) (t := tN o) (s := sNq o) hw h1 h2 h3
  have hN : sprN (formOf o) w = w / 1048576 % 32 * 1048576 := by rw [e]; rfl
  have hd : (decI o w).Rd = ((w / 128 % 32 : Nat) : Int) := by unfold decI; rw [e]; rfl
  have ha : (decI o w).Rs1 = ((w / 32768 % 32 : Nat) : Int) := by unfold decI; rw [e]; rfl
  have hb : (decI o w).Rs2 = ((0 : Nat) : Int) := by unfold decI; rw [e]; rfl
  have kn := Spread_eq (w := w) hf
  rw [hN] at kn
  exact ⟨_, Word_sum hd ha hb k1 k2 k3 kn hS.1, hS.2.trans (fit72 hw e).symm⟩
theorem fit85 {w : Nat} (hw : w < 4294967296) {o : Int} (e : formOf o = 85) : Fits o w ↔ w % 128 = cNq o := by
  unfold Fits
  rw [e]
  omega
theorem wd85 {w : Nat} (hw : w < 4294967296) {o : Int} (ho : 1 ≤ o ∧ o ≤ 45) (e : formOf o = 85) : ∃ v : Nat, ref02_Word (decI o w) = some (v : Int) ∧ (v = w ↔ Fits o w) := by
  obtain ⟨⟨c1, c2, c3⟩, ⟨h1, h2, h3⟩, ⟨k1, k2, k3⟩, hf, z1, z2⟩ := op_parts ho
  have ht : tN o = 0 := z1 (by rw [e]; decide)
  have hs : sNq o = 0 := z2 (by rw [e]; decide) (by rw [e]; decide)
  have hS := sum85 (c := cNq o) (t := tN o) (s := sNq o) hw h1 h2 h3
  have hN : sprN (formOf o) w = w / 4096 % 1048576 * 4096 := by rw [e]; rfl
  have hd : (decI o w).Rd = ((w / 128 % 32 : Nat) : Int) := by unfold decI; rw [e]; rfl
  have ha : (decI o w).Rs1 = ((0 : Nat) : Int) := by unfold decI; rw [e]; rfl
  have hb : (decI o w).Rs2 = ((0 : Nat) : Int) := by unfold decI; rw [e]; rfl
  have kn := Spread_eq (w := w) hf
  rw [hN] at kn
  rw [ht] at k2
  rw [hs] at k3
  exact ⟨_, Word_sum hd ha hb k1 k2 k3 kn hS.1, hS.2.trans (fit85 hw e).symm⟩
theorem fit74 {w : Nat} (hw : w < 4294967296) {o : Int} (e : formOf o = 74) : Fits o w ↔ w % 128 = cNq o := by
  unfold Fits
  rw [e]
  omega
theorem wd74 {w : Nat} (hw : w < 4294967296) {o : Int} (ho : 1 ≤ o ∧ o ≤ 45) (e : formOf o = 74) : ∃ v : Nat, ref02_Word (decI o w) = some (v : Int) ∧ (v = w ↔ Fits o w) := by
  obtain ⟨⟨c1, c2, c3⟩, ⟨h1, h2, h3⟩, ⟨k1, k2, k3⟩, hf, z1, z2⟩ := op_parts ho
  have ht : tN o = 0 := z1 (by rw [e]; decide)
  have hs : sNq o = 0 := z2 (by rw [e]; decide) (by rw [e]; decide)
  have hS := sum74 (c := cNq o) (t := tN o) (s := sNq o) hw h1 h2 h3
  have hN : sprN (formOf o) w = w / 2147483648 % 2 * 2147483648 + w / 2097152 % 1024 * 2097152 + w / 1048576 % 2 * 1048576 + w / 4096 % 256 * 4096 := by rw [e]; rfl
  have hd : (decI o w).Rd = ((w / 128 % 32 : Nat) : Int) := by unfold decI; rw [e]; rfl
  have ha : (decI o w).Rs1 = ((0 : Nat) : Int) := by unfold decI; rw [e]; rfl
  have hb : (decI o w).Rs2 = ((0 : Nat) : Int) := by unfold decI; rw [e]; rfl
  have kn := Spread_eq (w := w) hf
  rw [hN] at kn
  rw [ht] at k2
  rw [hs] at k3
  exact ⟨_, Word_sum hd ha hb k1 k2 k3 kn hS.1, hS.2.trans (fit74 hw e).symm⟩
theorem fit66 {w : Nat} (hw : w < 4294967296) {o : Int} (e : formOf o = 66) : Fits o w ↔ w % 128 = cNq o ∧ w / 4096 % 8 = tN o := by
  unfold Fits
  rw [e]
  omega
theorem wd66 {w : Nat} (hw : w < 4294967296) {o : Int} (ho : 1 ≤ o ∧ o ≤ 45) (e : formOf o = 66) : ∃ v : Nat, ref02_Word (decI o w) = some (v : Int) ∧ (v = w ↔ Fits o w) := by
  obtain ⟨⟨c1, c2, c3⟩, ⟨h1, h2, h3⟩, ⟨k1, k2, k3⟩, hf, z1, z2⟩ := op_parts ho
  have hs : sNq o = 0 := z2 (by rw [e]; decide) (by rw [e]; decide)
  have hS := sum66 (c := cNq o) (t := tN o) (s := sNq o) hw h1 h2 h3
  have hN : sprN (formOf o) w = w / 2147483648 % 2 * 2147483648 + w / 33554432 % 64 * 33554432 + w / 256 % 16 * 256 + w / 128 % 2 * 128 := by rw [e]; rfl
  have hd : (decI o w).Rd = ((0 : Nat) : Int) := by unfold decI; rw [e]; rfl
  have ha : (decI o w).Rs1 = ((w / 32768 % 32 : Nat) : Int) := by unfold decI; rw [e]; rfl
  have hb : (decI o w).Rs2 = ((w / 1048576 % 32 : Nat) : Int) := by unfold decI; rw [e]; rfl
  have kn := Spread_eq (w := w) hf
  rw [hN] at kn
  rw [hs] at k3
  exact ⟨_, Word_sum hd ha hb k1 k2 k3 kn hS.1, hS.2.trans (fit66 hw e).symm⟩
theorem fit83 {w : Nat} (hw : w < 4294967296) {o : Int} (e : formOf o = 83) : Fits o w ↔ w % 128 = cNq o ∧ w / 4096 % 8 = tN o := by
  unfold Fits
  rw [e]
  omega
theorem wd83 {w : Nat} (hw : w < 4294967296) {o : Int} (ho : 1 ≤ o ∧ o ≤ 45) (e : formOf o = 83) : ∃ v : Nat, ref02_Word (decI o w) = some (v : Int) ∧ (v = w ↔ Fits o w) := by
  obtain ⟨⟨c1, c2, c3⟩, ⟨h1, h2, h3⟩, ⟨k1, k2, k3⟩, hf, z1, z2⟩ := op_parts ho
  have hs : sNq o = 0 := z2 (by rw [e]; decide) (by rw [e]; decide)
  have hS := sum83 (c := cNq o) (t := tN o) (s := sNq o) hw h1 h2 h3
  have hN : sprN (formOf o) w = w / 128 % 32 * 128 + w / 33554432 % 128 * 33554432 := by rw [e]; rfl
  have hd : (decI o w).Rd = ((0 : Nat) : Int) := by unfold decI; rw [e]; rfl
  have ha : (decI o w).Rs1 = ((w / 32768 % 32 : Nat) : Int) := by unfold decI; rw [e]; rfl
  have hb : (decI o w).Rs2 = ((w / 1048576 % 32 : Nat) : Int) := by unfold decI; rw [e]; rfl
  have kn := Spread_eq (w := w) hf
  rw [hN] at kn
  rw [hs] at k3
  exact ⟨_, Word_sum hd ha hb k1 k2 k3 kn hS.1, hS.2.trans (fit83 hw e).symm⟩
theorem fit73 {w : Nat} (hw : w < 4294967296) {o : Int} (e : formOf o = 73) : Fits o w ↔ w % 128 = cNq o ∧ w / 4096 % 8 = tN o := by
  unfold Fits
  rw [e]
  omega
theorem wd73 {w : Nat} (hw : w < 4294967296) {o : Int} (ho : 1 ≤ o ∧ o ≤ 45) (e : formOf o = 73) : ∃ v : Nat, ref02_Word (decI o w) = some (v : Int) ∧ (v = w ↔ Fits o w) := by
  obtain ⟨⟨c1, c2, c3⟩, ⟨h1, h2, h3⟩, ⟨k1, k2, k3⟩, hf, z1, z2⟩ := op_parts ho
  have hs : sNq o = 0 := z2 (by rw [e]; decide) (by rw [e]; decide)
  have hS := sum73 (c := cNq o) (t := tN o) (s := sNq o) hw h1 h2 h3
  have hN : sprN (formOf o) w = w / 1048576 % 4096 * 1048576 := by rw [e]; rfl
  have hd : (decI o w).Rd = ((w / 128 % 32 : Nat) : Int) := by unfold decI; rw [e]; rfl
  have ha : (decI o w).Rs1 = ((w / 32768 % 32 : Nat) : Int) := by unfold decI; rw [e]; rfl
  have hb : (decI o w).Rs2 = ((0 : Nat) : Int) := by unfold decI; rw [e]; rfl
  have kn := Spread_eq (w := w) hf
  rw [hN] at kn
  rw [hs] at k3
  exact ⟨_, Word_sum hd ha hb k1 k2 k3 kn hS.1, hS.2.trans (fit73 hw e).symm⟩
theorem Word_dec {w : Nat} (hw : w < 4294967296) {o : Int} (ho : 1 ≤ o ∧ o ≤ 45) : ∃ v : Nat, ref02_Word (decI o w) = some (v : Int) ∧ (v = w ↔ Fits o w) := by
  rcases forms o with e | e | e | e | e | e | e | e
  · exact absurd e (op_parts ho).2.2.2.1
  · exact wd82 hw ho e
  · exact wd85 hw ho e
  · exact wd74 hw ho e
  · exact wd66 hw ho e
  · exact wd83 hw ho e
  · exact wd73 hw ho e
  · exact wd72 hw ho e
def decO (w : Nat) : Option Int := ((List.range 45).findIdx? fun (k : Nat) => decide (Fits ((k : Int) + 1) w)).map fun k => (k : Int) + 1
def decR (w : Nat) : GInst × Int := match decO w with
  | some o => (decI o w, 0)
  | none => (⟨0, 0, 0, 0, 0⟩, 3)
theorem dec_loop {w : Nat} {body : Int → Option (Lp Int (GInst × Int))} {K : Lp Int (GInst × Int) → Option (GInst × Int)} (hs : ∀ o, 1 ≤ o ∧ o ≤ 45 → body o = some (bif decide (Fits o w) then .ret (decI o w, 0) else .go (IntKind.wrap .i64 (o + 1)))) (he : body 46 = some (.brk 46))
    (h1 : K (.brk 46) = some (⟨0, 0, 0, 0, 0⟩, 3)) (h2 : ∀ r, K (.ret r) = some r) : (loopM body NN 1).bind K = some (decR w) := by
  unfold decR decO
  have hw : ∀ k : Nat, k < 45 → IntKind.wrap .i64 ((k : Int) + 1 + 1) = ((k + 1 : Nat) : Int) + 1 := fun k hk => by rw [w64 (by omega)]; omega
  cases hf : (List.range 45).findIdx? fun (k : Nat) => decide (Fits ((k : Int) + 1) w) with
  | none =>
    have hn := List.findIdx?_eq_none_iff.1 hf
    refine run_bind (fun k => (k : Int) + 1) 45 (.brk 46) rfl (by omega) (fun k hk => ?_) (by rw [show (((45 : Nat) : Int) + 1) = 46 from rfl]; exact he) trivial h1
    rw [hs _ (by omega), hn k (List.mem_range.2 hk), cond_false, hw k hk]
  | some i =>
    obtain ⟨hi, hp, hlt⟩ := List.findIdx?_eq_some_iff_getElem.1 hf
    rw [List.length_range] at hi
    rw [List.getElem_range] at hp
    refine run_bind (fun k => (k : Int) + 1) i (.ret (decI ((i : Int) + 1) w, 0)) rfl (by omega) (fun k hk => ?_) ?_ trivial (h2 _)
    · have := hlt k hk
      rw [List.getElem_range] at this
      rw [hs _ (by omega), show decide (Fits ((k : Int) + 1) w) = false by simpa using this, cond_false, hw k (by omega)]
    · rw [hs _ (by omega), hp, cond_true]
theorem Decode_eq {w : Nat} (hw : w < 4294967296) : inst_Decode (w : Int) = some (decR w) := by
  unfold inst_Decode
  rw [show inst_table = some tbl1 from rfl, Option.bind_some]
  unfold lenOk
  rw [if_pos (show tbl1.length = 46 from rfl), Option.bind_some]
  refine dec_loop (fun o ho => ?_) ?_ rfl (fun _ => rfl)
  · obtain ⟨_, _, _, hf, _, _⟩ := op_parts ho
    rw [c1 (dt ho.2), shp_idx ⟨by omega, ho.2⟩, Option.bind_some, fits_eq hw ho, Option.bind_some]
    cases decide (Fits o w) with
    | false => rfl
    | true =>
      have b1 : inst_bits (w : Int) 7 5 = some ((w / 128 % 32 : Nat) : Int) := ibP hw (by decide) (by decide) (by decide) (by decide)
      have b2 : inst_bits (w : Int) 15 5 = some ((w / 32768 % 32 : Nat) : Int) := ibP hw (by decide) (by decide) (by decide) (by decide)
      have b3 : inst_bits (w : Int) 20 5 = some ((w / 1048576 % 32 : Nat) : Int) := ibP hw (by decide) (by decide) (by decide) (by decide)
      have i1 : IntKind.wrap .i64 ((w / 128 % 32 : Nat) : Int) = ((w / 128 % 32 : Nat) : Int) := w64 (by omega)
      have i2 : IntKind.wrap .i64 ((w / 32768 % 32 : Nat) : Int) = ((w / 32768 % 32 : Nat) : Int) := w64 (by omega)
      have i3 : IntKind.wrap .i64 ((w / 1048576 % 32 : Nat) : Int) = ((w / 1048576 % 32 : Nat) : Int) := w64 (by omega)
      rw [Bool.not_true, cond_false, shp_form ⟨by omega, ho.2⟩, told_eq hw, Option.bind_some, needs_eq o hf, Option.bind_some, b1, b2, b3]
      unfold decI
      clear b1 b2 b3
      generalize ((w / 128 % 32 : Nat) : Int) = x at *
      generalize ((w / 32768 % 32 : Nat) : Int) = y at *
      generalize ((w / 1048576 % 32 : Nat) : Int) = z at *
      cases hasD (formOf o) <;> cases has1 (formOf o) <;> cases has2 (formOf o) <;> simp only [jn, cond_true, cond_false, Option.bind_some, i1, i2, i3]
  · rfl
theorem rDecode_eq {w : Nat} (hw : w < 4294967296) : ref02_Decode (w : Int) = some (decR w) := by
  unfold ref02_Decode
  rw [show IntKind.wrap .i64 (w : Int) = (w : Int) from w64 (by omega)]
  refine dec_loop (fun o ho => ?_) ?_ rfl (fun _ => rfl)
  · obtain ⟨_, _, _, hf, _, _⟩ := op_parts ho
    have m1 : ref02_move (w : Int) 7 11 0 = some ((w / 128 % 32 * 1 : Nat) : Int) := mvP hw (.inr ⟨by omega, rfl⟩) (by decide) (by decide) (by decide) (by decide) (by decide)
    have m2 : ref02_move (w : Int) 15 19 0 = some ((w / 32768 % 32 * 1 : Nat) : Int) := mvP hw (.inr ⟨by omega, rfl⟩) (by decide) (by decide) (by decide) (by decide) (by decide)
    have m3 : ref02_move (w : Int) 20 24 0 = some ((w / 1048576 % 32 * 1 : Nat) : Int) := mvP hw (.inr ⟨by omega, rfl⟩) (by decide) (by decide) (by decide) (by decide) (by decide)
    rw [Nat.mul_one] at m1 m2 m3
    obtain ⟨v, hv, hq⟩ := Word_dec hw ho
    have hR : ref02_Right (decI o w) = some true := by
      rw [rRight_eq, dec_right hf]
    have fin : ((ref02_Right (decI o w)).bind fun y9 => bif y9 then ((ref02_Word (decI o w)).bind fun y10 => bif y10 == (w : Int) then (some (Lp.ret (decI o w, (0 : Int)))) else (some (Lp.go (IntKind.wrap .i64 (o + 1))))) else (some (Lp.go (IntKind.wrap .i64 (o + 1)))) : Option (Lp Int (GInst × Int))) = some (bif decide (Fits o w) then .ret (decI o w, 0) else .go (IntKind.wrap .i64 (o + 1))) := by
      rw [hR, Option.bind_some, cond_true, hv, Option.bind_some, beqn]
      by_cases hF : Fits o w
      · rw [dt hF, dt (hq.2 hF)]; rfl
      · rw [df hF, df (fun e => hF (hq.1 e))]; rfl
    rw [← fin, c1 (dt ho.2), rForm_eq, Option.bind_some, Gather_eq hw, Option.bind_some, rhas1, rhas2, rhas3, m1, m2, m3]
    clear m1 m2 m3 fin hv hq
    unfold decI
    generalize ((w / 128 % 32 : Nat) : Int) = x at *
    generalize ((w / 32768 % 32 : Nat) : Int) = y at *
    generalize ((w / 1048576 % 32 : Nat) : Int) = z at *
    cases hasD (formOf o) <;> cases has1 (formOf o) <;> cases has2 (formOf o) <;> simp only [jn, cond_true, cond_false, Option.bind_some]
  · rfl
abbrev Wu (a : Int) : Prop := 0 ≤ a ∧ a < 4294967296
theorem dec_p {w : Int} (h : Wu w) : inst_Decode w = some (decR w.toNat) := by
  have := Decode_eq (w := w.toNat) (by omega); rwa [show ((w.toNat : Nat) : Int) = w by omega] at this
theorem dec_r {w : Int} (h : Wu w) : ref02_Decode w = some (decR w.toNat) := by
  have := rDecode_eq (w := w.toNat) (by omega); rwa [show ((w.toNat : Nat) : Int) = w by omega] at this
def isB (i : GInst) : Bool := i.Op == 3 && i.Rd == 1
def isM (i : GInst) : Bool := i.Op == 3 && i.Rd == 5
def adG (k : Nat) (i : GInst) (g : BoundGraph) : BoundGraph :=
  ⟨g.code ++ [i], bif isB i then g.backs ++ [((k + 1 : Nat) : Int)] else g.backs, bif isM i then g.marks ++ [(k : Int)] else g.marks⟩
def rdG : List Int → Nat → BoundGraph → Option BoundGraph
  | [], _, g => some g
  | w :: l, k, g => bif (decR w.toNat).2 != 0 then none else rdG l (k + 1) (adG k (decR w.toNat).1 g)
structure GOk (k : Nat) (g : BoundGraph) : Prop where
  len : g.code.length = k
  bl : g.backs.length ≤ k
  ml : g.marks.length ≤ k
  bb : ∀ b ∈ g.backs, 1 ≤ b ∧ b ≤ (k : Int)
  mm : ∀ m ∈ g.marks, 0 ≤ m ∧ m < (k : Int)
  im : ∀ i ∈ g.code, -4294967296 ≤ i.Imm ∧ i.Imm < 4294967296
theorem GOk.nil : GOk 0 ⟨[], [], []⟩ := ⟨rfl, Nat.le_refl _, Nat.le_refl _, by simp, by simp, by simp⟩
theorem dec_imm (w : Nat) : -4294967296 ≤ (decR w).1.Imm ∧ (decR w).1.Imm < 4294967296 := by
  unfold decR
  split
  · rename_i k _
    have := immN_at (formOf (k : Int)) w
    simp only [decI]
    omega
  · simp
theorem GOk.ad {k : Nat} {g : BoundGraph} (h : GOk k g) (w : Nat) : GOk (k + 1) (adG k (decR w).1 g) := by
  obtain ⟨h1, h2, h3, h4, h5, h6⟩ := h
  have hi := dec_imm w
  revert hi
  generalize (decR w).1 = i
  intro hi
  refine ⟨by simp [adG, h1], ?_, ?_, ?_, ?_, ?_⟩
  · unfold adG; cases isB i <;> simp <;> omega
  · unfold adG; cases isM i <;> simp <;> omega
  · intro b hb
    unfold adG at hb
    cases hB : isB i <;> rw [hB] at hb
    · have := h4 b hb; omega
    · rcases List.mem_append.1 hb with h | h
      · have := h4 b h; omega
      · simp at h; omega
  · intro b hb
    unfold adG at hb
    cases hB : isM i <;> rw [hB] at hb
    · have := h5 b hb; omega
    · rcases List.mem_append.1 hb with h | h
      · have := h5 b h; omega
      · simp at h; omega
  · intro j hj
    unfold adG at hj
    rcases List.mem_append.1 hj with h | h
    · exact h6 j h
    · simp at h; subst h; exact hi
theorem rdG_cons (w : Int) (l : List Int) (k : Nat) (g : BoundGraph) : rdG (w :: l) k g = bif (decR w.toNat).2 != 0 then none else rdG l (k + 1) (adG k (decR w.toNat).1 g) := rfl
theorem rdG_ok : ∀ (l : List Int) (k : Nat) (g g' : BoundGraph), GOk k g → rdG l k g = some g' → GOk (k + l.length) g'
  | [], k, g, g', h, e => by cases e; exact h
  | w :: l, k, g, g', h, e => by
    unfold rdG at e
    cases hb : (decR w.toNat).2 != 0 <;> rw [hb] at e
    · have := rdG_ok l (k + 1) _ _ (h.ad w.toNat) e
      rwa [show k + 1 + l.length = k + (w :: l).length by simp; omega] at this
    · cases e
theorem drop_cons {α : Type} {l : List α} {k : Nat} (h : k < l.length) : l.drop k = l[k] :: l.drop (k + 1) := List.drop_eq_getElem_cons h
def toRef (g : BoundGraph) : ref30Code := ⟨g.code, g.backs, g.marks⟩
theorem w64n {k : Nat} (h : k < 4611686018427387904) : IntKind.wrap .i64 ((k : Int) + 1) = ((k + 1 : Nat) : Int) := by rw [w64 (by omega)]; omega
theorem read_p (g : GImage) (hw : ∀ w ∈ g.Code, Wu w) (hl : g.Code.length ≤ 200) :
    bound_read g = some (match rdG g.Code 0 ⟨[], [], []⟩ with | some x => .error (x, 0) | none => .ok 3) := by
  unfold bound_read
  refine loop_bind (fun s => ∃ k : Nat, k ≤ g.Code.length ∧ s.1 = (k : Int) ∧ GOk k s.2 ∧ rdG (g.Code.drop k) k s.2 = rdG g.Code 0 ⟨[], [], []⟩) (fun s => g.Code.length - s.1.toNat)
    (fun o => (∃ k x, o = .brk (k, x) ∧ rdG g.Code 0 ⟨[], [], []⟩ = some x) ∨ (o = .ret (.ok 3) ∧ rdG g.Code 0 ⟨[], [], []⟩ = none)) ⟨0, by omega, rfl, GOk.nil, rfl⟩ (NN_big (by omega)) ?_ ?_
  · rintro ⟨_, x⟩ ⟨k, hk, rfl, hG, hr⟩
    dsimp only at hr hG ⊢
    by_cases h : k < g.Code.length
    · have hwk := hw _ (List.getElem_mem h)
      rw [drop_cons h, rdG_cons] at hr
      rw [c1 (dlt h)]
      unfold jn
      dsimp only
      rw [idx_get h, Option.bind_some, dec_p hwk, Option.bind_some]
      cases hb : (decR (g.Code[k]).toNat).2 != 0 <;> rw [hb] at hr
      · rw [cond_false] at hr
        have hA := hG.ad (g.Code[k]).toNat
        have hx : IntKind.wrap .i64 ((k : Int) + 1) = ((k + 1 : Nat) : Int) := w64n (by omega)
        have h1 := hG.len
        have h2 := hG.bl
        have h3 := hG.ml
        refine ⟨.go (((k + 1 : Nat) : Int), adG k (decR (g.Code[k]).toNat).1 x), ?_, ⟨k + 1, by omega, rfl, hA, hr⟩, by simp; omega⟩
        clear hA hr hb
        generalize (decR (g.Code[k]).toNat).1 = i
        have hx' : IntKind.wrap .i64 ((k : Int) + 1) = (k : Int) + 1 := w64 (by omega)
        rw [cond_false, room_ok (by simp; omega), Option.bind_some]
        unfold adG isB isM
        by_cases e3 : i.Op = 3
        · rw [c0 (b := i.Op != 3) (by simp [e3])]
          by_cases e1 : i.Rd = 1
          · rw [c1 (b := i.Rd == 1) (by simp [e1]), room_ok (by simp; omega), Option.bind_some]
            simp [e3, e1, hx']
          · rw [c0 (b := i.Rd == 1) (by simp [e1])]
            by_cases e5 : i.Rd = 5
            · rw [c1 (b := i.Rd == 5) (by simp [e5]), room_ok (by simp; omega), Option.bind_some]
              simp [e3, e5, hx']
            · rw [c0 (b := i.Rd == 5) (by simp [e5])]
              rw [show (i.Rd == 1) = false by simpa using e1, show (i.Rd == 5) = false by simpa using e5]
              simp [e3, hx']
        · rw [c1 (b := i.Op != 3) (by simp [e3]), show (i.Op == 3) = false by simpa using e3]
          simp [hx']
      · rw [cond_true] at hr ⊢
        exact ⟨_, rfl, .inr ⟨rfl, hr.symm⟩⟩
    · have hkn : k = g.Code.length := by omega
      subst hkn
      rw [c0 (dge _)]
      refine ⟨_, rfl, .inl ⟨_, x, rfl, ?_⟩⟩
      rw [← hr, List.drop_length]
      rfl
  · rintro o (⟨k, x, rfl, h⟩ | ⟨rfl, h⟩) <;> rw [h] <;> rfl
theorem read_r (l : List Int) (hw : ∀ w ∈ l, Wu w) (hl : l.length ≤ 200) :
    ref30_Read l = some (match rdG l 0 ⟨[], [], []⟩ with | some x => (toRef x, 0) | none => (⟨[], [], []⟩, 3)) := by
  unfold ref30_Read
  refine loop_bind (fun s => ∃ (k : Nat) (x : BoundGraph), k ≤ l.length ∧ s = ((k : Int), toRef x) ∧ GOk k x ∧ rdG (l.drop k) k x = rdG l 0 ⟨[], [], []⟩) (fun s => l.length - s.1.toNat)
    (fun o => (∃ k x, o = .brk (k, toRef x) ∧ rdG l 0 ⟨[], [], []⟩ = some x) ∨ (o = .ret (⟨[], [], []⟩, 3) ∧ rdG l 0 ⟨[], [], []⟩ = none)) ⟨0, ⟨[], [], []⟩, by omega, rfl, GOk.nil, rfl⟩ (NN_big (by omega)) ?_ ?_
  · rintro _ ⟨k, x, hk, rfl, hG, hr⟩
    dsimp only at hr hG ⊢
    by_cases h : k < l.length
    · have hwk := hw _ (List.getElem_mem h)
      rw [drop_cons h, rdG_cons] at hr
      rw [c1 (dlt h)]
      unfold jn
      dsimp only
      rw [idx_get h, Option.bind_some, dec_r hwk, Option.bind_some]
      cases hb : (decR (l[k]).toNat).2 != 0 <;> rw [hb] at hr
      · rw [cond_false] at hr
        have hA := hG.ad (l[k]).toNat
        have h1 := hG.len
        have h2 := hG.bl
        have h3 := hG.ml
        refine ⟨.go (((k + 1 : Nat) : Int), toRef (adG k (decR (l[k]).toNat).1 x)), ?_, ⟨k + 1, _, by omega, rfl, hA, hr⟩, by simp; omega⟩
        clear hA hr hb
        generalize (decR (l[k]).toNat).1 = i
        have hx' : IntKind.wrap .i64 ((k : Int) + 1) = (k : Int) + 1 := w64 (by omega)
        rw [cond_false, room_ok (by simp [toRef]; omega), Option.bind_some]
        unfold adG isB isM
        by_cases e3 : i.Op = 3
        · by_cases e1 : i.Rd = 1
          · rw [c1 (b := i.Op == 3 && i.Rd == 1) (by simp [e3, e1]), room_ok (by simp [toRef]; omega), Option.bind_some, c0 (b := i.Op == 3 && i.Rd == 5) (by simp [e1])]
            simp [toRef, e3, e1, hx']
          · rw [c0 (b := i.Op == 3 && i.Rd == 1) (by simp [e1])]
            by_cases e5 : i.Rd = 5
            · rw [c1 (b := i.Op == 3 && i.Rd == 5) (by simp [e3, e5]), room_ok (by simp [toRef]; omega), Option.bind_some]
              simp [toRef, e3, e5, hx']
            · rw [c0 (b := i.Op == 3 && i.Rd == 5) (by simp [e5]), show (i.Rd == 1) = false by simpa using e1, show (i.Rd == 5) = false by simpa using e5]
              simp [toRef, hx']
        · rw [c0 (b := i.Op == 3 && i.Rd == 1) (by simp [e3]), c0 (b := i.Op == 3 && i.Rd == 5) (by simp [e3]), show (i.Op == 3) = false by simpa using e3]
          simp [toRef, hx']
      · rw [cond_true] at hr ⊢
        exact ⟨_, rfl, .inr ⟨rfl, hr.symm⟩⟩
    · have hkn : k = l.length := by omega
      subst hkn
      rw [c0 (dge _)]
      refine ⟨_, rfl, .inl ⟨_, x, rfl, ?_⟩⟩
      rw [← hr, List.drop_length]
      rfl
  · rintro o (⟨k, x, rfl, h⟩ | ⟨rfl, h⟩) <;> rw [h] <;> rfl
def inb (N : Nat) (x : Int) : Bool := decide (0 ≤ x) && decide (x < (N : Int))
theorem inb_iff {N : Nat} {x : Int} : inb N x = true ↔ 0 ≤ x ∧ x < (N : Int) := by unfold inb; simp
def tgG (n : Int) (i : GInst) : Int := IntKind.wrap .i64 (n + (IntKind.wrap .i64 (Int.tdiv i.Imm 4)))
def ldI (bs : List Int) (n : Int) (i : GInst) : List Int :=
  bif (i.Op == 3) && (i.Rd == 5) then [] else bif i.Op == 3 then [tgG n i] else bif ((((i.Op == 4) && (i.Rd == 0)) && (i.Rs1 == 1)) && (i.Imm == 0)) then bs else bif i.Op == 4 then [] else
    bif ((decide (5 ≤ i.Op)) && (decide (i.Op ≤ 10))) then [tgG n i, IntKind.wrap .i64 (n + 1)] else [IntKind.wrap .i64 (n + 1)]
def ldsG (g : BoundGraph) (n : Int) : List Int := ldI g.backs n (g.code.getD n.toNat ⟨0, 0, 0, 0, 0⟩)
def scG (g : BoundGraph) (n : Int) : List Int := (ldsG g n).filter (inb g.code.length)
theorem code_at {g : BoundGraph} {n : Int} (h : 0 ≤ n ∧ n < (g.code.length : Int)) : idx g.code n = some (g.code.getD n.toNat ⟨0, 0, 0, 0, 0⟩) := by
  have := idx_get (l := g.code) (k := n.toNat) (by omega)
  rw [show ((n.toNat : Nat) : Int) = n by omega] at this
  rw [this, List.getD_eq_getElem?_getD, List.getElem?_eq_getElem (by omega)]
  rfl
theorem leads_p {g : BoundGraph} {n : Int} (h : 0 ≤ n ∧ n < (g.code.length : Int)) : bound_graph_leads g n = some (ldsG g n) := by
  unfold bound_graph_leads ldsG ldI tgG bound_target
  rw [code_at h, Option.bind_some]
  generalize g.code.getD n.toNat ⟨0, 0, 0, 0, 0⟩ = i
  cases (i.Op == 3) && (i.Rd == 5) <;> cases i.Op == 3 <;> cases ((((i.Op == 4) && (i.Rd == 0)) && (i.Rs1 == 1)) && (i.Imm == 0)) <;> cases i.Op == 4 <;> cases ((decide (5 ≤ i.Op)) && (decide (i.Op ≤ 10))) <;> rfl
theorem in_r (g : BoundGraph) (l : List Int) (hl : l.length ≤ 100000) : ref30_in (toRef g) l = some (l.filter (inb g.code.length)) := by
  unfold ref30_in
  refine run_bind (fun k => ((l.take k).filter (inb g.code.length), (k : Int))) l.length (.brk (l.filter (inb g.code.length), (l.length : Int))) (by simp) (by omega) (fun k hk => ?_) ?_ trivial rfl
  · dsimp only
    rw [c1 (dlt hk)]
    unfold jn
    dsimp only
    have hw : IntKind.wrap .i64 ((k : Int) + 1) = ((k + 1 : Nat) : Int) := w64n (by omega)
    have hle : ((l.take k).filter (inb g.code.length)).length ≤ k := Nat.le_trans (List.length_filter_le _ _) (by rw [List.length_take]; omega)
    rw [idx_get hk, Option.bind_some, Option.bind_some, Option.bind_some, hw, List.take_succ_eq_append_getElem hk, List.filter_append]
    revert hle
    generalize (l.take k).filter (inb g.code.length) = m
    intro hle
    rw [room_ok (by simp; omega), Option.bind_some]
    show _ = some (Lp.go (m ++ List.filter (inb g.code.length) [l[k]], ((k + 1 : Nat) : Int)))
    rw [List.filter_cons, List.filter_nil]
    unfold inb toRef
    dsimp only
    cases decide (0 ≤ l[k]) <;> cases decide (l[k] < (g.code.length : Int)) <;> simp
  · dsimp only
    rw [c0 (dge _), List.take_length]
theorem leads_r {g : BoundGraph} {n : Int} (h : 0 ≤ n ∧ n < (g.code.length : Int)) (hb : g.backs.length ≤ 200) : ref30_Leads (toRef g) n = some (scG g n) := by
  unfold ref30_Leads scG ldsG ldI tgG
  rw [show (toRef g).L = g.code from rfl, show (toRef g).Backs = g.backs from rfl, code_at h, Option.bind_some]
  generalize g.code.getD n.toNat ⟨0, 0, 0, 0, 0⟩ = i
  rw [in_r _ _ (by simp), in_r _ _ (by omega), in_r _ _ (by simp), in_r _ _ (by simp)]
  cases (i.Op == 3) && (i.Rd == 5) <;> cases i.Op == 3 <;> cases ((((i.Op == 4) && (i.Rd == 0)) && (i.Rs1 == 1)) && (i.Imm == 0)) <;> cases i.Op == 4 <;> cases ((decide (5 ≤ i.Op)) && (decide (i.Op ≤ 10))) <;> rfl
theorem lds_len {g : BoundGraph} (n : Int) (hb : g.backs.length ≤ 200) : (ldsG g n).length ≤ 200 := by
  unfold ldsG ldI
  generalize g.code.getD n.toNat ⟨0, 0, 0, 0, 0⟩ = i
  cases (i.Op == 3) && (i.Rd == 5) <;> cases i.Op == 3 <;> cases ((((i.Op == 4) && (i.Rd == 0)) && (i.Rs1 == 1)) && (i.Imm == 0)) <;> cases i.Op == 4 <;> cases ((decide (5 ≤ i.Op)) && (decide (i.Op ≤ 10))) <;> simp [hb]
theorem sc_len {g : BoundGraph} (n : Int) (hb : g.backs.length ≤ 200) : (scG g n).length ≤ 200 := Nat.le_trans (List.length_filter_le _ _) (lds_len n hb)
theorem sc_in {g : BoundGraph} {n s : Int} (h : s ∈ scG g n) : 0 ≤ s ∧ s < (g.code.length : Int) := inb_iff.1 (List.mem_filter.1 h).2
def foldC {σ ε : Type} (f : σ → Int → Option (Lp σ ε)) : List Int → σ → Option (Lp σ ε)
  | [], s => some (.go s)
  | u :: l, s => (f s u).bind fun z => z.gone (fun s' => foldC f l s') (some z)
theorem on_p {σ ε : Type} {f : σ → Int → Option (Lp σ ε)} {s : σ} {g : BoundGraph} {n : Int} {z : Lp σ ε} (h : 0 ≤ n ∧ n < (g.code.length : Int)) (hb : g.backs.length ≤ 200)
    (hf : foldC f (scG g n) s = some z) : bound_graph_on_1 f s g n = some z := by
  unfold bound_graph_on_1
  rw [leads_p h, Option.bind_some]
  have hl := lds_len n hb
  unfold scG at hf
  revert hl hf
  generalize ldsG g n = l
  intro hf hl
  refine loop_bind (fun q => ∃ k : Nat, k ≤ l.length ∧ q.2 = (k : Int) ∧ foldC f ((l.drop k).filter (inb g.code.length)) q.1 = some z) (fun q => l.length - q.2.toNat)
    (fun o => (∃ x y, o = .brk (x, y) ∧ z = .go x) ∨ o = .ret z) ⟨0, by omega, rfl, by simpa using hf⟩ (NN_big (by omega)) ?_ ?_
  · rintro ⟨q, _⟩ ⟨k, hk, rfl, hq⟩
    dsimp only at hq ⊢
    by_cases hlt : k < l.length
    · rw [drop_cons hlt, List.filter_cons] at hq
      have hw : IntKind.wrap .i64 ((k : Int) + 1) = ((k + 1 : Nat) : Int) := w64n (by omega)
      rw [c1 (dlt hlt), idx_get hlt, Option.bind_some, show bound_graph_has g l[k] = some (inb g.code.length l[k]) from rfl, Option.bind_some, hw]
      cases hi : inb g.code.length l[k] <;> rw [hi] at hq
      · exact ⟨_, rfl, ⟨k + 1, by omega, rfl, by simpa using hq⟩, by simp; omega⟩
      · rw [if_pos rfl] at hq
        unfold foldC at hq
        cases hz : f q l[k] with
        | none => rw [hz] at hq; cases hq
        | some y =>
          rw [hz, Option.bind_some] at hq
          rw [cond_true, Option.bind_some]
          cases y with
          | go s' => exact ⟨_, rfl, ⟨k + 1, by omega, rfl, hq⟩, by simp; omega⟩
          | brk s' => cases hq; exact ⟨_, rfl, .inr rfl⟩
          | ret s' => cases hq; exact ⟨_, rfl, .inr rfl⟩
    · have hkn : k = l.length := by omega
      subst hkn
      rw [c0 (dge _)]
      rw [List.drop_length] at hq
      cases hq
      exact ⟨_, rfl, .inl ⟨_, _, rfl, rfl⟩⟩
  · rintro o (⟨x, y, rfl, rfl⟩ | rfl) <;> rfl
inductive Rch (g : BoundGraph) : Int → Int → Prop
  | refl (a : Int) : Rch g a a
  | tail {a b c : Int} : Rch g a b → c ∈ scG g b → Rch g a c
theorem Rch.trans {g : BoundGraph} {a b c : Int} (h : Rch g a b) (k : Rch g b c) : Rch g a c := by
  induction k with
  | refl => exact h
  | tail _ hc ih => exact ih.tail hc
def Rnd (g : BoundGraph) (a : Int) : Prop := ∃ u v, Rch g a u ∧ v ∈ scG g u ∧ Rch g v u
def stG (g : BoundGraph) : List Int := (g.marks.map fun m => IntKind.wrap .i64 (m + 1)).filter (inb g.code.length)
theorem idx_at {α : Type} {l : List α} (d : α) {n : Int} (h : 0 ≤ n ∧ n < (l.length : Int)) : idx l n = some (l.getD n.toNat d) := by
  have := idx_get (l := l) (k := n.toNat) (by omega)
  rw [show ((n.toNat : Nat) : Int) = n by omega] at this
  rw [this, List.getD_eq_getElem?_getD, List.getElem?_eq_getElem (by omega)]
  rfl
def at_ (l : List Int) (v : Int) : Int := l.getD v.toNat 0
theorem at_idx {l : List Int} {n : Int} (h : 0 ≤ n ∧ n < (l.length : Int)) : idx l n = some (at_ l n) := idx_at 0 h
theorem at_set {l : List Int} {u v x : Int} (hu : 0 ≤ u ∧ u < (l.length : Int)) (hv : 0 ≤ v) : at_ (List.set l u.toNat x) v = if v = u then x else at_ l v := by
  unfold at_
  rw [List.getD_eq_getElem?_getD, List.getD_eq_getElem?_getD, List.getElem?_set]
  by_cases h : v = u
  · subst h; rw [if_pos rfl, if_pos rfl, if_pos (by omega)]; rfl
  · rw [if_neg (by omega), if_neg h]
def sumTo (f : Nat → Nat) : Nat → Nat
  | 0 => 0
  | n + 1 => sumTo f n + f n
theorem sumTo_le {f h : Nat → Nat} : ∀ {n : Nat}, (∀ k, k < n → f k ≤ h k) → sumTo f n ≤ sumTo h n
  | 0, _ => Nat.le_refl _
  | n + 1, hh => Nat.add_le_add (sumTo_le fun k hk => hh k (by omega)) (hh n (by omega))
theorem sumTo_eq {f h : Nat → Nat} {n : Nat} (hh : ∀ k, k < n → f k = h k) : sumTo f n = sumTo h n :=
  Nat.le_antisymm (sumTo_le fun k hk => by rw [hh k hk]; omega) (sumTo_le fun k hk => by rw [hh k hk]; omega)
theorem sumTo_upd {f h : Nat → Nat} {t : Nat} : ∀ {n : Nat}, t < n → (∀ k, k < n → k ≠ t → f k = h k) → sumTo f n + h t = sumTo h n + f t
  | 0, ht, _ => by omega
  | n + 1, ht, hh => by
    unfold sumTo
    by_cases e : t = n
    · subst e
      rw [sumTo_eq (f := f) (h := h) fun k hk => hh k (by omega) (by omega)]
      omega
    · have := sumTo_upd (n := n) (by omega) fun k hk hne => hh k (by omega) hne
      have := hh n (by omega) (by omega)
      omega
theorem sumTo_const (c : Nat) : ∀ n : Nat, sumTo (fun _ => c) n = n * c
  | 0 => by simp [sumTo]
  | n + 1 => by rw [sumTo, sumTo_const c n]; rw [Nat.succ_mul]
abbrev InR (g : BoundGraph) (v : Int) : Prop := 0 ≤ v ∧ v < (g.code.length : Int)
def mxA (lg : List Int) : List Int → Int → Int
  | [], m => m
  | s :: l, m => mxA lg l (max m (at_ lg s))
theorem mxA_ge (lg : List Int) : ∀ (l : List Int) (m : Int), m ≤ mxA lg l m
  | [], m => Int.le_refl _
  | s :: l, m => Int.le_trans (Int.le_max_left _ _) (mxA_ge lg l _)
theorem mxA_mem (lg : List Int) : ∀ (l : List Int) (m s : Int), s ∈ l → at_ lg s ≤ mxA lg l m
  | x :: l, m, s, h => by
    rcases List.mem_cons.1 h with rfl | h
    · exact Int.le_trans (Int.le_max_right _ _) (mxA_ge lg l _)
    · exact mxA_mem lg l _ s h
theorem mxA_le (lg : List Int) {c : Int} : ∀ (l : List Int) (m : Int), m ≤ c → (∀ s ∈ l, at_ lg s ≤ c) → mxA lg l m ≤ c
  | [], m, h, _ => h
  | s :: l, m, h, hl => mxA_le lg l _ (Int.max_le.2 ⟨h, hl s (by simp)⟩) fun x hx => hl x (by simp [hx])
theorem mxA_congr {lg lg' : List Int} : ∀ (l : List Int) (m : Int), (∀ s ∈ l, at_ lg s = at_ lg' s) → mxA lg l m = mxA lg' l m
  | [], m, _ => rfl
  | s :: l, m, h => by
    unfold mxA
    rw [h s (by simp)]
    exact mxA_congr l _ fun x hx => h x (by simp [hx])
def cntG (g : BoundGraph) (st : List Int) : Nat := sumTo (fun k => if at_ st (k : Int) = 2 then 1 else 0) g.code.length
def potG (g : BoundGraph) (st : List Int) : Nat := sumTo (fun k => if at_ st (k : Int) = 0 then (scG g (k : Int)).length + 2 else 0) g.code.length
theorem cnt_le (g : BoundGraph) (st : List Int) : cntG g st ≤ g.code.length := by
  have := sumTo_le (f := fun k => if at_ st (k : Int) = 2 then 1 else 0) (h := fun _ => 1) (n := g.code.length) fun k _ => by split <;> omega
  rw [sumTo_const] at this
  unfold cntG
  omega
theorem pot_le (g : BoundGraph) (st : List Int) (hb : g.backs.length ≤ 200) (hl : g.code.length ≤ 200) : potG g st ≤ 40400 := by
  have := sumTo_le (f := fun k => if at_ st (k : Int) = 0 then (scG g (k : Int)).length + 2 else 0) (h := fun _ => 202) (n := g.code.length) fun k _ => by
    have := sc_len (g := g) (k : Int) hb
    split <;> omega
  rw [sumTo_const] at this
  unfold potG
  have h2 : g.code.length * 202 ≤ 200 * 202 := Nat.mul_le_mul_right _ hl
  omega
structure OkK (g : BoundGraph) (st lg : List Int) : Prop where
  sl : st.length = g.code.length
  ll : lg.length = g.code.length
  vs : ∀ v, InR g v → at_ st v = 0 ∨ at_ st v = 1 ∨ at_ st v = 2
  k1 : ∀ v, InR g v → at_ st v = 2 → ∀ s ∈ scG g v, at_ st s = 2
  k2 : ∀ v, InR g v → at_ st v = 2 → at_ lg v = mxA lg (scG g v) 0 + 1
  k3 : ∀ v, InR g v → at_ st v = 2 → 1 ≤ at_ lg v ∧ at_ lg v ≤ (cntG g st : Int)
def flatW : List (Int × List Int) → List Int → List Int
  | [], q => q
  | (h, p) :: fs, q => p ++ h :: flatW fs q
def WF (g : BoundGraph) (st : List Int) : List (Int × List Int) → Option Int → Prop
  | [], _ => True
  | (h, p) :: fs, nx => InR g h ∧ h ∉ fs.map Prod.fst ∧ (∀ e ∈ p, e ≠ h ∧ e ∉ fs.map Prod.fst ∧ e ∈ scG g h) ∧ (∀ s ∈ scG g h, at_ st s = 2 ∨ s ∈ p ∨ nx = some s) ∧ (∀ u, nx = some u → u ∈ scG g h) ∧ WF g st fs (some h)
theorem WF.mono {g : BoundGraph} {st st' : List Int} (hm : ∀ s, InR g s → at_ st s = 2 → at_ st' s = 2) : ∀ {fs : List (Int × List Int)} {nx : Option Int}, WF g st fs nx → WF g st' fs nx
  | [], _, _ => trivial
  | (h, p) :: fs, nx, ⟨h1, h2, h3, h4, h5, h6⟩ => ⟨h1, h2, h3, fun s hs => (h4 s hs).imp_left fun e => hm s (sc_in hs) e, h5, h6.mono hm⟩
theorem WF.rch {g : BoundGraph} {st : List Int} : ∀ {fs : List (Int × List Int)} {t : Int}, WF g st fs (some t) → ∀ k ∈ fs.map Prod.fst, Rch g k t
  | [], _, _, k, hk => by simp at hk
  | (h, p) :: fs, t, ⟨h1, h2, h3, h4, h5, h6⟩, k, hk => by
    have ht : t ∈ scG g h := h5 t rfl
    simp only [List.map_cons, List.mem_cons] at hk
    rcases hk with rfl | hk
    · exact (Rch.refl _).tail ht
    · exact (WF.rch h6 k hk).tail ht
theorem WF.drop {g : BoundGraph} {st st' : List Int} {t : Int} (hm : ∀ s, InR g s → at_ st s = 2 → at_ st' s = 2) (ht : at_ st' t = 2) : ∀ {fs : List (Int × List Int)}, WF g st fs (some t) → WF g st' fs none
  | [], _ => trivial
  | (h, p) :: fs, ⟨h1, h2, h3, h4, h5, h6⟩ => by
    refine ⟨h1, h2, h3, fun s hs => ?_, fun u hu => ?_, h6.mono hm⟩
    · rcases h4 s hs with e | e | e
      · exact .inl (hm s (sc_in hs) e)
      · exact .inr (.inl e)
      · cases e; exact .inl ht
    · cases hu
def cbk (st lg : List Int) (fi : Int) (sx : Bool × (List Int) × Int) (x10 : Int) : Option (Lp (Bool × (List Int) × Int) Unit) :=
  (match sx with | (x7, x8, x9) => (idx st x10).bind fun u7 => bif u7 == 2 then ((idx lg x10).bind fun u8 => some (Lp.go (x7, x8, max x9 u8))) else (bif fi == 0 then ((idx st x10).bind fun u9 => bif u9 == 0 then ((room (List.length x8 + List.length ([x10] : List Int))).bind fun _ => some (Lp.go (x7, x8 ++ ([x10] : List Int), x9))) else ((idx st x10).bind fun u10 => bif u10 == 1 then (some (Lp.brk (false, x8, x9))) else (some (Lp.go (x7, x8, x9))))) else ((idx st x10).bind fun u11 => bif u11 == 1 then (some (Lp.brk (false, x8, x9))) else (some (Lp.go (x7, x8, x9))))))
def psh (st : List Int) (fi : Int) (l : List Int) : List Int := bif fi == 0 then l.filter (fun s => at_ st s == 0) else []
theorem foldC_cons {σ ε : Type} (f : σ → Int → Option (Lp σ ε)) (u : Int) (l : List Int) (s : σ) : foldC f (u :: l) s = (f s u).bind fun z => z.gone (fun s' => foldC f l s') (some z) := rfl
theorem cbk_at {st lg : List Int} (fi s : Int) (x7 : Bool) (x8 : List Int) (x9 : Int) (h1 : idx st s = some (at_ st s)) (h2 : idx lg s = some (at_ lg s)) (h3 : x8.length + 1 ≤ 1000000) :
    cbk st lg fi (x7, x8, x9) s = some (bif at_ st s == 2 then .go (x7, x8, max x9 (at_ lg s)) else bif fi == 0 then (bif at_ st s == 0 then .go (x7, x8 ++ [s], x9) else bif at_ st s == 1 then .brk (false, x8, x9) else .go (x7, x8, x9)) else bif at_ st s == 1 then .brk (false, x8, x9) else .go (x7, x8, x9)) := by
  unfold cbk
  dsimp only
  rw [h1, h2]
  simp only [Option.bind_some]
  rw [room_ok (by simp; omega), Option.bind_some]
  cases at_ st s == 2 <;> cases fi == 0 <;> cases at_ st s == 0 <;> cases at_ st s == 1 <;> rfl
theorem cbk_fold {g : BoundGraph} {st lg : List Int} (fi : Int) (hs : st.length = g.code.length) (hl : lg.length = g.code.length) (x7 : Bool) : ∀ (l : List Int) (x8 : List Int) (x9 : Int), (∀ s ∈ l, InR g s) → x8.length + l.length ≤ 1000000 →
    ∃ z, foldC (cbk st lg fi) l (x7, x8, x9) = some z ∧ ((∃ s ∈ l, at_ st s = 1 ∧ ∃ a b, z = .brk (false, a, b)) ∨
    ((∀ s ∈ l, at_ st s ≠ 1) ∧ z = .go (x7, x8 ++ psh st fi l, mxA lg (l.filter fun s => at_ st s == 2) x9)))
  | [], x8, x9, _, _ => ⟨_, rfl, .inr ⟨by simp, by simp [psh, mxA]⟩⟩
  | s :: l, x8, x9, hi, hn => by
    have hsr := hi s (by simp)
    have hr : ∀ s ∈ l, InR g s := fun x hx => hi x (by simp [hx])
    have hn' : x8.length + l.length + 1 ≤ 1000000 := by simpa [Nat.add_assoc] using hn
    have e1 : idx st s = some (at_ st s) := at_idx (by omega)
    have e2 : idx lg s = some (at_ lg s) := at_idx (by omega)
    rw [foldC_cons, cbk_at fi s x7 x8 x9 e1 e2 (by omega), Option.bind_some]
    have key : ∀ (x8' : List Int) (x9' : Int), x8'.length + l.length ≤ 1000000 → at_ st s ≠ 1 → x8 ++ psh st fi (s :: l) = x8' ++ psh st fi l → mxA lg ((s :: l).filter fun s => at_ st s == 2) x9 = mxA lg (l.filter fun s => at_ st s == 2) x9' →
        ∃ z, foldC (cbk st lg fi) l (x7, x8', x9') = some z ∧ ((∃ y ∈ s :: l, at_ st y = 1 ∧ ∃ a b, z = .brk (false, a, b)) ∨
          ((∀ y ∈ s :: l, at_ st y ≠ 1) ∧ z = .go (x7, x8 ++ psh st fi (s :: l), mxA lg ((s :: l).filter fun s => at_ st s == 2) x9))) := by
      intro x8' x9' h8 hne hp hm
      obtain ⟨z, ez, h⟩ := cbk_fold fi hs hl x7 l x8' x9' hr h8
      refine ⟨z, ez, ?_⟩
      rcases h with ⟨y, hy, h⟩ | ⟨h1, h⟩
      · exact .inl ⟨y, by simp [hy], h⟩
      · refine .inr ⟨fun y hy => ?_, by rw [hp, hm]; exact h⟩
        rcases List.mem_cons.1 hy with rfl | hy
        · exact hne
        · exact h1 y hy
    by_cases h2 : at_ st s = 2
    · rw [c1 (b := at_ st s == 2) (by simp [h2])]
      exact key x8 _ (by omega) (by omega) (by unfold psh; simp [h2]) (by simp [h2, mxA])
    · rw [c0 (b := at_ st s == 2) (by simp [h2])]
      have hf : (s :: l).filter (fun s => at_ st s == 2) = l.filter (fun s => at_ st s == 2) := by simp [h2]
      by_cases h1 : at_ st s = 1
      · refine ⟨.brk (false, x8, x9), ?_, .inl ⟨s, by simp, h1, _, _, rfl⟩⟩
        rw [c0 (b := at_ st s == 0) (by simp [h1]), c1 (b := at_ st s == 1) (by simp [h1])]
        cases fi == 0 <;> rfl
      · rw [c0 (b := at_ st s == 1) (by simp [h1])]
        cases hfi : fi == 0
        · rw [cond_false]
          exact key x8 x9 (by omega) h1 (by unfold psh; rw [hfi]; rfl) (by rw [hf])
        · rw [cond_true]
          by_cases h0 : at_ st s = 0
          · rw [c1 (b := at_ st s == 0) (by simp [h0])]
            exact key (x8 ++ [s]) x9 (by simp; omega) h1 (by unfold psh; rw [hfi]; simp [h0]) (by rw [hf])
          · rw [c0 (b := at_ st s == 0) (by simp [h0])]
            exact key x8 x9 (by omega) h1 (by unfold psh; rw [hfi]; simp [h0]) (by rw [hf])
end Go.Proofs.YtlnamhpmhcgcpaaGreatDoor
