/- Plain laws: no program is in sight here. -/
import Derived.Test.YtgacfocekkckfaaGreatDoorPure
import Derived.Test.YtgacfocekkckfaaGreatDoorLoop
import Derived.Test.YtgacfocekkckfaaGreatDoorM
set_option linter.unusedVariables false
namespace Go.Proofs.YtgacfocekkckfaaGreatDoor
def formL : List Int := [0, 85, 85, 74, 73, 66, 66, 66, 66, 66, 66, 73, 73, 73, 73, 73, 83, 83, 83, 73, 73, 73, 73, 73, 73, 72, 72, 72, 82, 82, 82, 82, 82, 82, 82, 82, 82, 82, 82, 82, 82, 82, 82, 82, 82, 82]
def formOf (o : Int) : Int := if 0 ≤ o then formL.getD o.toNat 0 else 0
theorem fin46 {P : Int → Prop} (h : ∀ k : _root_.Fin 46, P (k.val : Int)) {o : Int} (h0 : 0 ≤ o) (h1 : o ≤ 45) : P o := by
  have := h ⟨o.toNat, by omega⟩
  rwa [show ((⟨o.toNat, by omega⟩ : _root_.Fin 46).val : Int) = o by simp; omega] at this
theorem formOf_out {o : Int} (h : o < 0 ∨ 46 ≤ o) : formOf o = 0 := by
  unfold formOf
  split
  · rw [List.getD_eq_getElem?_getD, List.getElem?_eq_none (by simp [formL]; omega)]; rfl
  · rfl
theorem rForm_eq (o : Int) : ref02_Form o = some (formOf o) := by
  by_cases h : o < 0 ∨ 46 ≤ o
  · unfold ref02_Form; rw [formOf_out h]
    rcases h with h | h
    · rw [c1 (dt (by omega))]
    · rw [c0 (df (by omega)), c1 (dt (by omega))]
  · exact fin46 (P := fun o => ref02_Form o = some (formOf o)) (by decide +kernel) (by omega) (by omega)
theorem forms (o : Int) : formOf o = 0 ∨ formOf o = 82 ∨ formOf o = 85 ∨ formOf o = 74 ∨ formOf o = 66 ∨ formOf o = 83 ∨ formOf o = 73 ∨ formOf o = 72 := by
  by_cases h : o < 0 ∨ 46 ≤ o
  · exact .inl (formOf_out h)
  · exact fin46 (P := fun o => formOf o = 0 ∨ formOf o = 82 ∨ formOf o = 85 ∨ formOf o = 74 ∨ formOf o = 66 ∨ formOf o = 83 ∨ formOf o = 73 ∨ formOf o = 72) (by decide +kernel) (by omega) (by omega)
def regB (n : Int) (b : Bool) : Bool := bif b then decide (0 ≤ n) && decide (n ≤ 31) else n == 0
def hasD (f : Int) : Bool := f != 83 && f != 66
def has1 (f : Int) : Bool := f != 85 && f != 74
def has2 (f : Int) : Bool := f == 83 || f == 66 || f == 82
def immB (f n : Int) : Bool := (ref02_room f n).getD false
def rightB (i : GInst) : Bool := (formOf i.Op != 0) && regB i.Rd (hasD (formOf i.Op)) && regB i.Rs1 (has1 (formOf i.Op)) && regB i.Rs2 (has2 (formOf i.Op)) && immB (formOf i.Op) i.Imm
theorem rreg_eq (n : Int) (b : Bool) : ref02_reg n b = some (regB n b) := by
  unfold ref02_reg regB
  cases b with
  | false => rfl
  | true =>
    simp only [Bool.not_true, cond_false, cond_true]
    cases decide (0 ≤ n) <;> rfl
theorem rhas1 (f : Int) : ref02_has f 1 = some (hasD f) := by
  unfold ref02_has hasD
  simp only [Int.reduceBEq, cond_true]
  cases f != 83 <;> rfl
theorem rhas2 (f : Int) : ref02_has f 2 = some (has1 f) := by
  unfold ref02_has has1
  simp only [Int.reduceBEq, cond_true, cond_false]
  cases f != 85 <;> rfl
theorem rhas3 (f : Int) : ref02_has f 3 = some (has2 f) := by
  unfold ref02_has has2
  simp only [Int.reduceBEq, cond_false]
  cases f == 83 <;> cases f == 66 <;> rfl
theorem rroom_eq (f n : Int) : ref02_room f n = some (immB f n) := by
  have : ∃ b, ref02_room f n = some b := by
    unfold ref02_room
    have ex : ∀ (c : Bool) (x y : Option Bool), (∃ b, x = some b) → (∃ b, y = some b) → ∃ b, (bif c then x else y) = some b := by
      rintro (_ | _) x y h1 h2
      · exact h2
      · exact h1
    repeat' first | exact ⟨_, rfl⟩ | refine ex _ _ _ ?_ ?_
  obtain ⟨b, hb⟩ := this
  unfold immB
  rw [hb]
  rfl
theorem rRight_eq (i : GInst) : ref02_Right i = some (rightB i) := by
  unfold ref02_Right rightB
  rw [rForm_eq, Option.bind_some]
  cases formOf i.Op != 0 with
  | false => rfl
  | true =>
    simp only [cond_true, rhas1, rhas2, rhas3, rreg_eq, rroom_eq, Option.bind_some, Bool.true_and]
    cases regB i.Rd (hasD (formOf i.Op)) with
    | false => rfl
    | true =>
      cases regB i.Rs1 (has1 (formOf i.Op)) with
      | false => rfl
      | true => cases regB i.Rs2 (has2 (formOf i.Op)) <;> rfl
theorem needs_eq (o : Int) (h : formOf o ≠ 0) : inst_needs (formOf o) = some (hasD (formOf o), has1 (formOf o), has2 (formOf o), formOf o != 82) := by
  rcases forms o with e | e | e | e | e | e | e | e
  · exact absurd e h
  all_goals rw [e]; rfl
theorem tm0 (n k : Int) : (Int.tmod n k == 0) = decide (n % k = 0) := by
  have : Int.tmod n k = 0 ↔ n % k = 0 := by rw [← Int.dvd_iff_tmod_eq_zero, Int.dvd_iff_emod_eq_zero]
  rw [← decide_eq_decide.2 this]
  rfl
theorem bb (a b c : Prop) [Decidable a] [Decidable b] [Decidable c] : (bif decide a then bif decide b then some (decide c) else some false else some false : Option Bool) = some (decide (a ∧ b ∧ c)) := by
  by_cases h1 : a <;> by_cases h2 : b <;> by_cases h3 : c <;> simp [h1, h2, h3]
theorem bb2 (a b : Prop) [Decidable a] [Decidable b] : (bif decide a then some (decide b) else some false : Option Bool) = some (decide (a ∧ b)) := by
  by_cases h1 : a <;> by_cases h2 : b <;> simp [h1, h2]
theorem w32u' {x : Nat} (h : x < 4294967296) : IntKind.wrap .u32 (x : Int) = (x : Int) := w32u (by omega)
theorem bv32 {a : Nat} (h : a < 4294967296) : (BitVec.ofInt 32 (a : Int)).toNat = a := by
  rw [BitVec.ofInt_natCast, BitVec.toNat_ofNat]; exact Nat.mod_eq_of_lt h
theorem or32n {a b : Nat} (ha : a < 4294967296) (hb : b < 4294967296) : bits .or .u32 (a : Int) (b : Int) = ((a ||| b : Nat) : Int) := by
  show IntKind.u32.wrap ((BitVec.ofInt 32 (a : Int) ||| BitVec.ofInt 32 (b : Int)).toNat : Int) = _
  rw [BitVec.toNat_or, bv32 ha, bv32 hb, w32u' (Nat.or_lt_two_pow (n := 32) ha hb)]
theorem and32 (m k : Nat) (hm : m < 4294967296) (hk : k < 32) : bits .and .u32 (m : Int) ((2 ^ k - 1 : Nat) : Int) = ((m % 2 ^ k : Nat) : Int) := by
  have h3 : 2 ^ k < 2 ^ 32 := Nat.pow_lt_pow_right (by omega) hk
  show IntKind.u32.wrap ((BitVec.ofInt 32 (m : Int) &&& BitVec.ofInt 32 ((2 ^ k - 1 : Nat) : Int)).toNat : Int) = _
  have := Nat.mod_le m (2 ^ k)
  rw [BitVec.toNat_and, bv32 hm, bv32 (by omega), Nat.and_two_pow_sub_one_eq_mod, w32u' (by omega)]
theorem high20 (x : Nat) (h : x < 4294967296) : x &&& 4294963200 = x / 4096 * 4096 := by
  rw [show (4294963200 : Nat) = (2 ^ 20 - 1) <<< 12 from rfl, show x / 4096 * 4096 = (x >>> 12) <<< 12 by rw [Nat.shiftLeft_eq, Nat.shiftRight_eq_div_pow]]
  apply Nat.eq_of_testBit_eq
  intro i
  rw [Nat.testBit_and, Nat.testBit_shiftLeft, Nat.testBit_shiftLeft, Nat.testBit_shiftRight, Nat.testBit_two_pow_sub_one]
  by_cases h1 : 12 ≤ i
  · simp only [ge_iff_le, h1, decide_true, Bool.true_and]
    rw [show 12 + (i - 12) = i by omega]
    by_cases h2 : i - 12 < 20
    · simp [h2]
    · rw [Nat.testBit_lt_two_pow (Nat.lt_of_lt_of_le h (show 4294967296 ≤ 2 ^ i from Nat.pow_le_pow_right (n := 2) (by omega) (show 32 ≤ i by omega)))]
      rfl
  · simp [h1]
theorem andN (x : Nat) (h : x < 4294967296) : bits .andNot .u32 (x : Int) 4095 = ((x / 4096 * 4096 : Nat) : Int) := by
  show IntKind.u32.wrap ((BitVec.ofInt 32 (x : Int) &&& ~~~ BitVec.ofInt 32 4095).toNat : Int) = _
  rw [BitVec.toNat_and, bv32 h, show (~~~ BitVec.ofInt 32 4095).toNat = 4294963200 by decide +kernel, high20 x h, w32u' (by omega)]
theorem ibits {w : Nat} (hw : w < 4294967296) {a m : Int} (ha : 0 ≤ a ∧ a < 32) (hm : 0 ≤ m ∧ m < 32) : inst_bits (w : Int) a m = some ((w / 2 ^ a.toNat % 2 ^ m.toNat : Nat) : Int) := by
  unfold inst_bits nn
  rw [if_pos ha.1, if_pos hm.1, Option.bind_some, Option.bind_some]
  have e1 : min (Int.toNat a) (IntKind.bits .u32) = a.toNat := Nat.min_eq_left (by show a.toNat ≤ 32; omega)
  have e2 : min (Int.toNat m) (IntKind.bits .u32) = m.toNat := Nat.min_eq_left (by show m.toNat ≤ 32; omega)
  have h3 : 2 ^ m.toNat < 2 ^ 32 := Nat.pow_lt_pow_right (by omega) (by omega)
  have h4 : 0 < 2 ^ m.toNat := Nat.pow_pos (by omega)
  have h5 : 0 < 2 ^ a.toNat := Nat.pow_pos (by omega)
  have e3 : IntKind.wrap .u32 ((IntKind.wrap .u32 (1 * 2 ^ m.toNat)) - 1) = ((2 ^ m.toNat - 1 : Nat) : Int) := by
    rw [show (1 * 2 ^ m.toNat : Int) = ((2 ^ m.toNat : Nat) : Int) by simp, w32u' (by omega), show ((2 ^ m.toNat : Nat) : Int) - 1 = ((2 ^ m.toNat - 1 : Nat) : Int) by omega, w32u' (by omega)]
  have e4 : Int.fdiv (w : Int) (2 ^ a.toNat) = ((w / 2 ^ a.toNat : Nat) : Int) := by
    rw [show (2 ^ a.toNat : Int) = ((2 ^ a.toNat : Nat) : Int) by simp, Int.fdiv_eq_ediv_of_nonneg _ (by omega), Int.natCast_ediv]
  have h6 : w / 2 ^ a.toNat ≤ w := Nat.div_le_self _ _
  rw [e1, e2, e3, e4, and32 _ _ (by omega) (by omega)]
theorem ibP {w : Nat} (hw : w < 4294967296) {a m : Int} {p q : Nat} (ha : 0 ≤ a ∧ a < 32) (hm : 0 ≤ m ∧ m < 32) (hp : 2 ^ a.toNat = p) (hq : 2 ^ m.toNat = q) : inst_bits (w : Int) a m = some ((w / p % q : Nat) : Int) := by
  subst hp hq
  exact ibits hw ha hm
theorem two_eq {k : Int} (h : 0 ≤ k ∧ k < 62) : ref02_two k = some ((2 ^ k.toNat : Nat) : Int) := by
  obtain ⟨n, rfl⟩ : ∃ n : Nat, k = (n : Int) := ⟨k.toNat, by omega⟩
  unfold ref02_two
  have hp : ∀ j, j ≤ n → 2 ^ j < 2 ^ 62 := fun j hj => Nat.pow_lt_pow_right (by omega) (by omega)
  refine run_bind (fun j => (((2 ^ j : Nat) : Int), (j : Int))) n (.brk (((2 ^ n : Nat) : Int), (n : Int))) rfl (by omega) (fun j hj => ?_) ?_ trivial rfl
  · have := hp (j + 1) (by omega)
    have e : (2 : Nat) ^ (j + 1) = 2 * 2 ^ j := by rw [Nat.pow_succ, Nat.mul_comm]
    simp only []
    rw [c1 (dt (by omega)), w64 (by omega), w64 (by omega), e]
    congr 3
  · simp only []
    rw [c0 (df (by omega))]
theorem move_eq {n : Int} {w : Nat} (hw : w < 4294967296) (h : (n < 0 ∧ n + 4294967296 = (w : Int)) ∨ (0 ≤ n ∧ n = (w : Int))) {a b c : Int} (ha : 0 ≤ a ∧ a ≤ b ∧ b < 32) (hc : 0 ≤ c ∧ c + (b - a + 1) ≤ 32) :
    ref02_move n a b c = some ((w / 2 ^ a.toNat % 2 ^ (b - a + 1).toNat * 2 ^ c.toNat : Nat) : Int) := by
  unfold ref02_move
  dsimp only [jn]
  have key : ∀ x1 : Int, x1 = (w : Int) → ((ref02_two a).bind fun y1 => (nz y1).bind fun _ => (ref02_two (IntKind.wrap .i64 ((IntKind.wrap .i64 (b - a)) + 1))).bind fun y2 => (nz y2).bind fun _ => (ref02_two c).bind fun y3 => some (IntKind.wrap .i64 ((Int.tmod (IntKind.wrap .i64 (Int.tdiv x1 y1)) y2) * y3))) = some ((w / 2 ^ a.toNat % 2 ^ (b - a + 1).toNat * 2 ^ c.toNat : Nat) : Int) := by
    intro x1 hx
    subst hx
    have p1 : 0 < 2 ^ a.toNat := Nat.pow_pos (by decide)
    have p2 : 0 < 2 ^ (b - a + 1).toNat := Nat.pow_pos (by decide)
    have p3 : 0 < 2 ^ c.toNat := Nat.pow_pos (by decide)
    have p4 : 2 ^ (b - a + 1).toNat * 2 ^ c.toNat ≤ 4294967296 := by
      rw [← Nat.pow_add]
      exact Nat.pow_le_pow_right (n := 2) (by decide) (show (b - a + 1).toNat + c.toNat ≤ 32 by omega)
    rw [two_eq (by omega), Option.bind_some, show IntKind.wrap .i64 (b - a) = b - a from w64 (by omega), show IntKind.wrap .i64 (b - a + 1) = b - a + 1 from w64 (by omega), two_eq (by omega), two_eq (by omega)]
    clear h ha hc
    generalize 2 ^ a.toNat = A at *
    generalize 2 ^ (b - a + 1).toNat = B at *
    generalize 2 ^ c.toNat = C at *
    unfold nz
    rw [if_neg (by omega), Option.bind_some, Option.bind_some, if_neg (by omega), Option.bind_some, Option.bind_some]
    have h6 : w / A ≤ w := Nat.div_le_self _ _
    have h7 : w / A % B < B := Nat.mod_lt _ p2
    have h8 : w / A % B * C < 4294967296 := Nat.lt_of_lt_of_le ((Nat.mul_lt_mul_right p3).2 h7) p4
    have q1 : Int.tdiv (w : Int) (A : Int) = ((w / A : Nat) : Int) := by rw [Int.tdiv_eq_ediv_of_nonneg (Int.natCast_nonneg _), ← Int.natCast_ediv]
    have q2 : IntKind.wrap .i64 ((w / A : Nat) : Int) = ((w / A : Nat) : Int) := by
      generalize w / A = z at *
      exact w64 (by omega)
    have q3 : Int.tmod ((w / A : Nat) : Int) (B : Int) = ((w / A % B : Nat) : Int) := by rw [Int.tmod_eq_emod_of_nonneg (Int.natCast_nonneg _), ← Int.natCast_emod]
    have q4 : IntKind.wrap .i64 ((w / A % B * C : Nat) : Int) = ((w / A % B * C : Nat) : Int) := by
      generalize w / A % B * C = z at *
      exact w64 (by omega)
    rw [q1, q2, q3, ← Int.natCast_mul, q4]
  rcases h with ⟨h1, h2⟩ | ⟨h1, h2⟩
  · rw [c1 (dt h1)]
    exact key _ (by rw [w64 (by omega)]; exact h2)
  · rw [c0 (df (by omega))]
    exact key _ h2
theorem signed_eq {n k : Int} (hk : 1 ≤ k ∧ k ≤ 32) (hn : 0 ≤ n ∧ n < 4294967296) : ref02_signed n k = some (if (2 ^ (k - 1).toNat : Nat) ≤ n then n - (2 ^ k.toNat : Nat) else n) := by
  unfold ref02_signed
  have : 2 ^ k.toNat ≤ 2 ^ 32 := Nat.pow_le_pow_right (by omega) (by omega)
  rw [w64 (by omega), two_eq (by omega), Option.bind_some]
  split
  · rename_i h
    have h9 : 0 < 2 ^ k.toNat := Nat.pow_pos (by decide)
    rw [c1 (dt h), two_eq (by omega), Option.bind_some]
    generalize 2 ^ k.toNat = A at *
    rw [w64 (by omega)]
  · rename_i h
    rw [c0 (df h)]
def immF (f : Int) (w : Nat) : Int :=
  if f = 85 then (if 524288 ≤ w / 4096 % 1048576 then ((w / 4096 % 1048576 : Nat) : Int) * 4096 - 4294967296 else ((w / 4096 % 1048576 : Nat) : Int) * 4096)
  else if f = 74 then ((w / 2097152 % 1024 : Nat) : Int) * 2 + ((w / 1048576 % 2 : Nat) : Int) * 2048 + ((w / 4096 % 256 : Nat) : Int) * 4096 - ((w / 2147483648 % 2 : Nat) : Int) * 1048576
  else if f = 73 then (if 2048 ≤ w / 1048576 % 4096 then ((w / 1048576 % 4096 : Nat) : Int) - 4096 else ((w / 1048576 % 4096 : Nat) : Int))
  else if f = 72 then ((w / 1048576 % 32 : Nat) : Int)
  else if f = 83 then (if 64 ≤ w / 33554432 % 128 then ((w / 33554432 % 128 : Nat) : Int) * 32 + ((w / 128 % 32 : Nat) : Int) - 4096 else ((w / 33554432 % 128 : Nat) : Int) * 32 + ((w / 128 % 32 : Nat) : Int))
  else if f = 66 then ((w / 33554432 % 64 : Nat) : Int) * 32 + ((w / 256 % 16 : Nat) : Int) * 2 + ((w / 128 % 2 : Nat) : Int) * 2048 - ((w / 2147483648 % 2 : Nat) : Int) * 4096
  else 0
theorem fN (w k m : Nat) (h : 0 < m) : ∃ x, w / k % m = x ∧ x < m := ⟨_, rfl, Nat.mod_lt _ h⟩
theorem Gather_eq {w : Nat} (hw : w < 4294967296) (f : Int) : ref02_Gather f (w : Int) = some (immF f w) := by
  have mv : ∀ {a b c : Int}, 0 ≤ a ∧ a ≤ b ∧ b < 32 → 0 ≤ c ∧ c + (b - a + 1) ≤ 32 → ref02_move (w : Int) a b c = some ((w / 2 ^ a.toNat % 2 ^ (b - a + 1).toNat * 2 ^ c.toNat : Nat) : Int) := fun ha hc => move_eq hw (.inr ⟨Int.natCast_nonneg _, rfl⟩) ha hc
  unfold ref02_Gather immF
  by_cases h : f = 85
  · subst h
    rw [if_pos rfl]
    simp (disch := decide) only [Int.reduceBEq, cond_true, cond_false, mv, Option.bind_some, Int.reduceToNat, Int.reduceSub, Int.reduceAdd, Nat.reducePow]
    obtain ⟨x, e, hx⟩ := fN w 4096 1048576 (by decide)
    rw [e]
    clear mv hw
    rw [signed_eq (by omega) (by omega), Option.bind_some]
    simp only [Int.reduceToNat, Int.reduceSub, Nat.reducePow]
    congr 1
    split <;> split <;> omega
  rw [if_neg h, c0 (by simpa using h)]
  by_cases h : f = 74
  · subst h
    rw [if_pos rfl]
    simp (disch := decide) only [Int.reduceBEq, cond_true, cond_false, mv, Option.bind_some, Int.reduceToNat, Int.reduceSub, Int.reduceAdd, Nat.reducePow]
    obtain ⟨x, e1, h1⟩ := fN w 2147483648 2 (by decide)
    obtain ⟨y, e2, h2⟩ := fN w 2097152 1024 (by decide)
    obtain ⟨z, e3, h3⟩ := fN w 1048576 2 (by decide)
    obtain ⟨u, e4, h4⟩ := fN w 4096 256 (by decide)
    rw [e1, e2, e3, e4]
    clear mv hw e1 e2 e3 e4
    simp (disch := omega) only [w64]
    rw [signed_eq (by omega) (by omega), Option.bind_some]
    simp only [Int.reduceToNat, Int.reduceSub, Nat.reducePow]
    congr 1
    split <;> omega
  rw [if_neg h, c0 (by simpa using h)]
  by_cases h : f = 73
  · subst h
    rw [if_pos rfl]
    simp (disch := decide) only [Int.reduceBEq, cond_true, cond_false, mv, Option.bind_some, Int.reduceToNat, Int.reduceSub, Int.reduceAdd, Nat.reducePow]
    obtain ⟨x, e, hx⟩ := fN w 1048576 4096 (by decide)
    rw [e]
    clear mv hw
    rw [signed_eq (by omega) (by omega), Option.bind_some]
    simp only [Int.reduceToNat, Int.reduceSub, Nat.reducePow]
    congr 1
    split <;> split <;> omega
  rw [if_neg h, c0 (by simpa using h)]
  by_cases h : f = 72
  · subst h
    rw [if_pos rfl]
    simp (disch := decide) only [Int.reduceBEq, cond_true, cond_false, mv, Option.bind_some, Int.reduceToNat, Int.reduceSub, Int.reduceAdd, Nat.reducePow, Nat.mul_one]
  rw [if_neg h, c0 (by simpa using h)]
  by_cases h : f = 83
  · subst h
    rw [if_pos rfl]
    simp (disch := decide) only [Int.reduceBEq, cond_true, cond_false, mv, Option.bind_some, Int.reduceToNat, Int.reduceSub, Int.reduceAdd, Nat.reducePow]
    obtain ⟨x, e1, h1⟩ := fN w 33554432 128 (by decide)
    obtain ⟨y, e2, h2⟩ := fN w 128 32 (by decide)
    rw [e1, e2]
    clear mv hw e1 e2
    simp (disch := omega) only [w64]
    rw [signed_eq (by omega) (by omega), Option.bind_some]
    simp only [Int.reduceToNat, Int.reduceSub, Nat.reducePow]
    congr 1
    split <;> split <;> omega
  rw [if_neg h, c0 (by simpa using h)]
  by_cases h : f = 66
  · subst h
    rw [if_pos rfl]
    simp (disch := decide) only [Int.reduceBEq, cond_true, mv, Option.bind_some, Int.reduceToNat, Int.reduceSub, Int.reduceAdd, Nat.reducePow]
    obtain ⟨x, e1, h1⟩ := fN w 2147483648 2 (by decide)
    obtain ⟨y, e2, h2⟩ := fN w 33554432 64 (by decide)
    obtain ⟨z, e3, h3⟩ := fN w 256 16 (by decide)
    obtain ⟨u, e4, h4⟩ := fN w 128 2 (by decide)
    rw [e1, e2, e3, e4]
    clear mv hw e1 e2 e3 e4
    simp (disch := omega) only [w64]
    rw [signed_eq (by omega) (by omega), Option.bind_some]
    simp only [Int.reduceToNat, Int.reduceSub, Nat.reducePow]
    congr 1
    split <;> omega
  rw [if_neg h, c0 (by simpa using h)]
theorem w32s {x : Nat} (h : x < 4294967296) : IntKind.wrap .i32 (x : Int) = if 2147483648 ≤ x then (x : Int) - 4294967296 else (x : Int) := by
  have e : (x : Int) % 2 ^ 32 = x := Int.emod_eq_of_lt (by omega) (by omega)
  show (if (true && decide ((x : Int) % 2 ^ 32 ≥ 2 ^ 31)) = true then (x : Int) % 2 ^ 32 - 2 ^ 32 else (x : Int) % 2 ^ 32) = _
  rw [Bool.true_and]
  simp only [e, decide_eq_true_eq]
  split <;> split <;> omega
theorem wu32n {n : Int} (h : -4294967296 ≤ n ∧ n < 0) : IntKind.wrap .u32 n = n + 4294967296 := by
  simp only [IntKind.wrap, IntKind.signed, IntKind.bits]
  simp
  omega
theorem wi32 {x : Nat} (h : x < 4294967296) : IntKind.wrap .i64 (IntKind.wrap .i32 (x : Int)) = if 2147483648 ≤ x then (x : Int) - 4294967296 else (x : Int) := by
  rw [w32s h]
  split <;> exact w64 (by omega)
theorem orS {a b : Nat} (k : Nat) (h : b < 2 ^ k) : a * 2 ^ k ||| b = a * 2 ^ k + b := by
  rw [Nat.mul_comm]
  exact (Nat.two_pow_add_eq_or_of_lt h a).symm
theorem orS' {a b : Nat} (k : Nat) (h : b < 2 ^ k) : b ||| a * 2 ^ k = a * 2 ^ k + b := by
  rw [Nat.or_comm]
  exact orS k h
theorem orP {a b p : Nat} (k : Nat) (hp : 2 ^ k = p) (h : b < p) : a * p ||| b = a * p + b := by
  subst hp
  exact orS k h
theorem orP' {a b p : Nat} (k : Nat) (hp : 2 ^ k = p) (h : b < p) : b ||| a * p = a * p + b := by
  subst hp
  exact orS' k h
theorem shP {x p : Nat} {k : Int} (hk : 0 ≤ k ∧ k ≤ 32) (hp : 2 ^ k.toNat = p) (h : x * p < 4294967296) : IntKind.wrap .u32 ((x : Int) * 2 ^ (min (Int.toNat k) (IntKind.bits .u32))) = ((x * p : Nat) : Int) := by
  subst hp
  rw [show min (Int.toNat k) (IntKind.bits .u32) = k.toNat from Nat.min_eq_left (by show k.toNat ≤ 32; omega), show (x : Int) * 2 ^ k.toNat = ((x * 2 ^ k.toNat : Nat) : Int) by simp, w32u' h]
theorem sign21 {x : Nat} (h : x < 2097152) : ∃ y, word_Sign (x : Int) 21 = some y ∧ IntKind.wrap .i64 (IntKind.wrap .i32 y) = if 1048576 ≤ x then (x : Int) - 2097152 else x := by
  unfold word_Sign nn
  simp only [Int.reduceLT, decide_false, cond_false]
  rw [show IntKind.wrap .i64 (32 - 21) = 11 from rfl, if_pos (by decide), Option.bind_some, Option.bind_some, show (2 : Int) ^ (min (Int.toNat 11) (IntKind.bits .u32)) = 2048 from rfl, show (2 : Int) ^ (min (Int.toNat 11) (IntKind.bits .i32)) = 2048 from rfl,
    show (x : Int) * 2048 = ((x * 2048 : Nat) : Int) by omega, w32u' (by omega), w32s (by omega), Int.fdiv_eq_ediv_of_nonneg _ (by decide)]
  refine ⟨_, rfl, ?_⟩
  by_cases hx : 1048576 ≤ x
  · rw [if_pos (by omega), if_pos hx, show (((x * 2048 : Nat) : Int) - 4294967296) / 2048 = (x : Int) - 2097152 by omega, wu32n (by omega), show (x : Int) - 2097152 + 4294967296 = ((x + 4292870144 : Nat) : Int) by omega, wi32 (by omega), if_pos (by omega)]
    omega
  · rw [if_neg (by omega), if_neg hx, show ((x * 2048 : Nat) : Int) / 2048 = (x : Int) by omega, w32u' (by omega), wi32 (by omega), if_neg (by omega)]
theorem sign12 {x : Nat} (h : x < 4096) : ∃ y, word_Sign (x : Int) 12 = some y ∧ IntKind.wrap .i64 (IntKind.wrap .i32 y) = if 2048 ≤ x then (x : Int) - 4096 else x := by
  unfold word_Sign nn
  simp only [Int.reduceLT, decide_false, cond_false]
  rw [show IntKind.wrap .i64 (32 - 12) = 20 from rfl, if_pos (by decide), Option.bind_some, Option.bind_some, show (2 : Int) ^ (min (Int.toNat 20) (IntKind.bits .u32)) = 1048576 from rfl, show (2 : Int) ^ (min (Int.toNat 20) (IntKind.bits .i32)) = 1048576 from rfl,
    show (x : Int) * 1048576 = ((x * 1048576 : Nat) : Int) by omega, w32u' (by omega), w32s (by omega), Int.fdiv_eq_ediv_of_nonneg _ (by decide)]
  refine ⟨_, rfl, ?_⟩
  by_cases hx : 2048 ≤ x
  · rw [if_pos (by omega), if_pos hx, show (((x * 1048576 : Nat) : Int) - 4294967296) / 1048576 = (x : Int) - 4096 by omega, wu32n (by omega), show (x : Int) - 4096 + 4294967296 = ((x + 4294963200 : Nat) : Int) by omega, wi32 (by omega), if_pos (by omega)]
    omega
  · rw [if_neg (by omega), if_neg hx, show ((x * 1048576 : Nat) : Int) / 1048576 = (x : Int) by omega, w32u' (by omega), wi32 (by omega), if_neg (by omega)]
theorem sign13 {x : Nat} (h : x < 8192) : ∃ y, word_Sign (x : Int) 13 = some y ∧ IntKind.wrap .i64 (IntKind.wrap .i32 y) = if 4096 ≤ x then (x : Int) - 8192 else x := by
  unfold word_Sign nn
  simp only [Int.reduceLT, decide_false, cond_false]
  rw [show IntKind.wrap .i64 (32 - 13) = 19 from rfl, if_pos (by decide), Option.bind_some, Option.bind_some, show (2 : Int) ^ (min (Int.toNat 19) (IntKind.bits .u32)) = 524288 from rfl, show (2 : Int) ^ (min (Int.toNat 19) (IntKind.bits .i32)) = 524288 from rfl,
    show (x : Int) * 524288 = ((x * 524288 : Nat) : Int) by omega, w32u' (by omega), w32s (by omega), Int.fdiv_eq_ediv_of_nonneg _ (by decide)]
  refine ⟨_, rfl, ?_⟩
  by_cases hx : 4096 ≤ x
  · rw [if_pos (by omega), if_pos hx, show (((x * 524288 : Nat) : Int) - 4294967296) / 524288 = (x : Int) - 8192 by omega, wu32n (by omega), show (x : Int) - 8192 + 4294967296 = ((x + 4294959104 : Nat) : Int) by omega, wi32 (by omega), if_pos (by omega)]
    omega
  · rw [if_neg (by omega), if_neg hx, show ((x * 524288 : Nat) : Int) / 524288 = (x : Int) by omega, w32u' (by omega), wi32 (by omega), if_neg (by omega)]
theorem told85 {w : Nat} (hw : w < 4294967296) : inst_told 85 (w : Int) = some (immF 85 w) := by
  unfold inst_told immF
  rw [if_pos rfl, show ((85 : Int) == 85) = true from rfl, cond_true]
  rw [andN w hw, show w / 4096 = w / 4096 % 1048576 by omega]
  obtain ⟨x, e, hx⟩ := fN w 4096 1048576 (by decide)
  rw [e, show x % 1048576 = x by omega]
  clear hw e
  rw [wi32 (by omega)]
  congr 1
  split <;> split <;> omega
theorem told74 {w : Nat} (hw : w < 4294967296) : inst_told 74 (w : Int) = some (immF 74 w) := by
  have b0 : inst_bits (w : Int) 31 1 = some ((w / 2147483648 % 2 : Nat) : Int) := ibP hw (by decide) (by decide) (by decide) (by decide)
  have b1 : inst_bits (w : Int) 21 10 = some ((w / 2097152 % 1024 : Nat) : Int) := ibP hw (by decide) (by decide) (by decide) (by decide)
  have b2 : inst_bits (w : Int) 20 1 = some ((w / 1048576 % 2 : Nat) : Int) := ibP hw (by decide) (by decide) (by decide) (by decide)
  have b3 : inst_bits (w : Int) 12 8 = some ((w / 4096 % 256 : Nat) : Int) := ibP hw (by decide) (by decide) (by decide) (by decide)
  unfold inst_told immF
  rw [if_neg (by decide), if_pos rfl, show ((74 : Int) == 85) = false from rfl, cond_false, show ((74 : Int) == 74) = true from rfl, cond_true]
  rw [b0, Option.bind_some, b1, Option.bind_some, b2, Option.bind_some, b3, Option.bind_some]
  obtain ⟨x, e0, h0⟩ := fN w 2147483648 2 (by decide)
  obtain ⟨y, e1, h1⟩ := fN w 2097152 1024 (by decide)
  obtain ⟨z, e2, h2⟩ := fN w 1048576 2 (by decide)
  obtain ⟨u, e3, h3⟩ := fN w 4096 256 (by decide)
  rw [e0, e1, e2, e3]
  clear b0 b1 b2 b3 hw e0 e1 e2 e3
  have a1 : x * 1048576 ||| y * 2 = x * 1048576 + y * 2 := orP 20 rfl (by omega)
  have a2 : x * 1048576 + y * 2 ||| z * 2048 = x * 1048576 + (z * 2048 + y * 2) := by
    rw [← orP 20 rfl (by omega), Nat.or_assoc, orP' 11 rfl (by omega), orP 20 rfl (by omega)]
  have a3 : x * 1048576 + (z * 2048 + y * 2) ||| u * 4096 = x * 1048576 + (u * 4096 + (z * 2048 + y * 2)) := by
    rw [← orP 20 rfl (by omega), Nat.or_assoc, orP' 12 rfl (by omega), orP 20 rfl (by omega)]
  rw [shP (k := 20) (p := 1048576) (by decide) rfl (by omega), shP (k := 1) (p := 2) (by decide) rfl (by omega), shP (k := 11) (p := 2048) (by decide) rfl (by omega), shP (k := 12) (p := 4096) (by decide) rfl (by omega), or32n (by omega) (by omega), a1, or32n (by omega) (by omega), a2, or32n (by omega) (by omega), a3]
  clear a1 a2 a3
  obtain ⟨v, hy, hv⟩ := sign21 (x := x * 1048576 + (u * 4096 + (z * 2048 + y * 2))) (by omega)
  rw [hy, Option.bind_some, hv]
  clear hv hy
  congr 1
  split <;> omega
theorem told73 {w : Nat} (hw : w < 4294967296) : inst_told 73 (w : Int) = some (immF 73 w) := by
  unfold inst_told immF
  rw [if_neg (by decide), if_neg (by decide), if_pos rfl, show ((73 : Int) == 85) = false from rfl, cond_false, show ((73 : Int) == 74) = false from rfl, cond_false, show ((73 : Int) == 73) = true from rfl, cond_true]
  rw [show (2 : Int) ^ (min (Int.toNat 20) (IntKind.bits .i32)) = 1048576 from rfl, Int.fdiv_eq_ediv_of_nonneg _ (by decide), w32s hw]
  have : 2147483648 ≤ w ↔ 2048 ≤ w / 1048576 % 4096 := by omega
  congr 1
  by_cases hs : 2147483648 ≤ w
  · rw [if_pos hs, if_pos (this.1 hs), show ((w : Int) - 4294967296) / 1048576 = ((w / 1048576 % 4096 : Nat) : Int) - 4096 by omega]
    refine w64 ⟨?_, ?_⟩ <;> omega
  · rw [if_neg hs, if_neg (fun e => hs (this.2 e)), show (w : Int) / 1048576 = ((w / 1048576 % 4096 : Nat) : Int) by omega]
    refine w64 ⟨?_, ?_⟩ <;> omega
theorem told72 {w : Nat} (hw : w < 4294967296) : inst_told 72 (w : Int) = some (immF 72 w) := by
  have b0 : inst_bits (w : Int) 20 5 = some ((w / 1048576 % 32 : Nat) : Int) := ibP hw (by decide) (by decide) (by decide) (by decide)
  unfold inst_told immF
  rw [if_neg (by decide), if_neg (by decide), if_neg (by decide), if_pos rfl, show ((72 : Int) == 85) = false from rfl, cond_false, show ((72 : Int) == 74) = false from rfl, cond_false, show ((72 : Int) == 73) = false from rfl, cond_false, show ((72 : Int) == 72) = true from rfl, cond_true]
  rw [b0]
  simp only [Option.bind_some]
  rw [w64 (by omega)]
theorem told83 {w : Nat} (hw : w < 4294967296) : inst_told 83 (w : Int) = some (immF 83 w) := by
  have b0 : inst_bits (w : Int) 25 7 = some ((w / 33554432 % 128 : Nat) : Int) := ibP hw (by decide) (by decide) (by decide) (by decide)
  have b1 : inst_bits (w : Int) 7 5 = some ((w / 128 % 32 : Nat) : Int) := ibP hw (by decide) (by decide) (by decide) (by decide)
  unfold inst_told immF
  rw [if_neg (by decide), if_neg (by decide), if_neg (by decide), if_neg (by decide), if_pos rfl, show ((83 : Int) == 85) = false from rfl, cond_false, show ((83 : Int) == 74) = false from rfl, cond_false, show ((83 : Int) == 73) = false from rfl, cond_false, show ((83 : Int) == 72) = false from rfl, cond_false, show ((83 : Int) == 83) = true from rfl, cond_true]
  rw [b0, Option.bind_some, b1, Option.bind_some]
  obtain ⟨x, e0, h0⟩ := fN w 33554432 128 (by decide)
  obtain ⟨y, e1, h1⟩ := fN w 128 32 (by decide)
  rw [e0, e1]
  clear b0 b1 hw e0 e1
  have a1 : x * 32 ||| y = x * 32 + y := orP 5 rfl (by omega)
  rw [shP (k := 5) (p := 32) (by decide) rfl (by omega), or32n (by omega) (by omega), a1]
  clear a1
  obtain ⟨v, hy, hv⟩ := sign12 (x := x * 32 + y) (by omega)
  rw [hy, Option.bind_some, hv]
  clear hv hy
  congr 1
  split <;> split <;> omega
theorem told66 {w : Nat} (hw : w < 4294967296) : inst_told 66 (w : Int) = some (immF 66 w) := by
  have b0 : inst_bits (w : Int) 31 1 = some ((w / 2147483648 % 2 : Nat) : Int) := ibP hw (by decide) (by decide) (by decide) (by decide)
  have b1 : inst_bits (w : Int) 25 6 = some ((w / 33554432 % 64 : Nat) : Int) := ibP hw (by decide) (by decide) (by decide) (by decide)
  have b2 : inst_bits (w : Int) 8 4 = some ((w / 256 % 16 : Nat) : Int) := ibP hw (by decide) (by decide) (by decide) (by decide)
  have b3 : inst_bits (w : Int) 7 1 = some ((w / 128 % 2 : Nat) : Int) := ibP hw (by decide) (by decide) (by decide) (by decide)
  unfold inst_told immF
  rw [if_neg (by decide), if_neg (by decide), if_neg (by decide), if_neg (by decide), if_neg (by decide), if_pos rfl, show ((66 : Int) == 85) = false from rfl, cond_false, show ((66 : Int) == 74) = false from rfl, cond_false, show ((66 : Int) == 73) = false from rfl, cond_false, show ((66 : Int) == 72) = false from rfl, cond_false, show ((66 : Int) == 83) = false from rfl, cond_false, show ((66 : Int) == 66) = true from rfl, cond_true]
  rw [b0, Option.bind_some, b1, Option.bind_some, b2, Option.bind_some, b3, Option.bind_some]
  obtain ⟨x, e0, h0⟩ := fN w 2147483648 2 (by decide)
  obtain ⟨y, e1, h1⟩ := fN w 33554432 64 (by decide)
  obtain ⟨z, e2, h2⟩ := fN w 256 16 (by decide)
  obtain ⟨u, e3, h3⟩ := fN w 128 2 (by decide)
  rw [e0, e1, e2, e3]
  clear b0 b1 b2 b3 hw e0 e1 e2 e3
  have a1 : x * 4096 ||| y * 32 = x * 4096 + y * 32 := orP 12 rfl (by omega)
  have a2 : x * 4096 + y * 32 ||| z * 2 = x * 4096 + (y * 32 + z * 2) := by
    rw [← orP 12 rfl (by omega), Nat.or_assoc, orP 5 rfl (by omega), orP 12 rfl (by omega)]
  have a3 : x * 4096 + (y * 32 + z * 2) ||| u * 2048 = x * 4096 + (u * 2048 + (y * 32 + z * 2)) := by
    rw [← orP 12 rfl (by omega), Nat.or_assoc, orP' 11 rfl (by omega), orP 12 rfl (by omega)]
  rw [shP (k := 12) (p := 4096) (by decide) rfl (by omega), shP (k := 5) (p := 32) (by decide) rfl (by omega), shP (k := 1) (p := 2) (by decide) rfl (by omega), shP (k := 11) (p := 2048) (by decide) rfl (by omega), or32n (by omega) (by omega), a1, or32n (by omega) (by omega), a2, or32n (by omega) (by omega), a3]
  clear a1 a2 a3
  obtain ⟨v, hy, hv⟩ := sign13 (x := x * 4096 + (u * 2048 + (y * 32 + z * 2))) (by omega)
  rw [hy, Option.bind_some, hv]
  clear hv hy
  congr 1
  split <;> omega
theorem told_eq {w : Nat} (hw : w < 4294967296) (f : Int) : inst_told f (w : Int) = some (immF f w) := by
  by_cases h : f = 85
  · rw [h]; exact told85 hw
  by_cases h : f = 74
  · rw [h]; exact told74 hw
  by_cases h : f = 73
  · rw [h]; exact told73 hw
  by_cases h : f = 72
  · rw [h]; exact told72 hw
  by_cases h : f = 83
  · rw [h]; exact told83 hw
  by_cases h : f = 66
  · rw [h]; exact told66 hw
  unfold inst_told immF
  rename_i h1 h2 h3 h4 h5
  rw [if_neg h1, if_neg h2, if_neg h3, if_neg h4, if_neg h5, if_neg h, c0 (by simpa using h1), c0 (by simpa using h2), c0 (by simpa using h3), c0 (by simpa using h4), c0 (by simpa using h5), c0 (by simpa using h)]
def shp (o : Int) : InstShape := tbl1.getD o.toNat ⟨[], 0, 0, 0, 0⟩
theorem shp_idx {o : Int} (h : 0 ≤ o ∧ o ≤ 45) : idx tbl1 o = some (shp o) := fin46 (P := fun o => idx tbl1 o = some (shp o)) (by decide +kernel) h.1 h.2
theorem shp_form {o : Int} (h : 0 ≤ o ∧ o ≤ 45) : (shp o).form = formOf o := fin46 (P := fun o => (shp o).form = formOf o) (by decide +kernel) h.1 h.2
def cNq (o : Int) : Nat := (shp o).code.toNat
def tN (o : Int) : Nat := (shp o).third.toNat
def sNq (o : Int) : Nat := (shp o).seventh.toNat
theorem op_parts {o : Int} (h : 1 ≤ o ∧ o ≤ 45) : ((shp o).code = (cNq o : Int) ∧ (shp o).third = (tN o : Int) ∧ (shp o).seventh = (sNq o : Int)) ∧ (cNq o < 128 ∧ tN o < 8 ∧ sNq o < 128) ∧
    (ref02_Code o = some (cNq o : Int) ∧ ref02_Third o = some (tN o : Int) ∧ ref02_Seventh o = some (sNq o : Int)) ∧ formOf o ≠ 0 ∧ (formOf o = 85 ∨ formOf o = 74 → tN o = 0) ∧ (formOf o ≠ 82 → formOf o ≠ 72 → sNq o = 0) :=
  fin46 (P := fun o => 1 ≤ o → ((shp o).code = (cNq o : Int) ∧ (shp o).third = (tN o : Int) ∧ (shp o).seventh = (sNq o : Int)) ∧ (cNq o < 128 ∧ tN o < 8 ∧ sNq o < 128) ∧
    (ref02_Code o = some (cNq o : Int) ∧ ref02_Third o = some (tN o : Int) ∧ ref02_Seventh o = some (sNq o : Int)) ∧ formOf o ≠ 0 ∧ (formOf o = 85 ∨ formOf o = 74 → tN o = 0) ∧ (formOf o ≠ 82 → formOf o ≠ 72 → sNq o = 0)) (by decide +kernel) (by omega) h.2 h.1
def Fits (o : Int) (w : Nat) : Prop := w % 128 = cNq o ∧ (formOf o = 85 ∨ formOf o = 74 ∨ (w / 4096 % 8 = tN o ∧ ((formOf o ≠ 82 ∧ formOf o ≠ 72) ∨ w / 33554432 = sNq o)))
instance (o : Int) (w : Nat) : Decidable (Fits o w) := by unfold Fits; infer_instance
def decI (o : Int) (w : Nat) : GInst :=
  ⟨o, bif hasD (formOf o) then (w / 128 % 32 : Nat) else 0, bif has1 (formOf o) then (w / 32768 % 32 : Nat) else 0, bif has2 (formOf o) then (w / 1048576 % 32 : Nat) else 0, immF (formOf o) w⟩
theorem beqn (a b : Nat) : (((a : Nat) : Int) == ((b : Nat) : Int)) = decide (a = b) := by
  by_cases h : a = b
  · subst h; simp
  · rw [df h, beq_eq_false_iff_ne]; omega
theorem fits_eq {w : Nat} (hw : w < 4294967296) {o : Int} (ho : 1 ≤ o ∧ o ≤ 45) : inst_fits (shp o) (w : Int) = some (decide (Fits o w)) := by
  obtain ⟨⟨h1, h2, h3⟩, _, _, hf, _, _⟩ := op_parts ho
  unfold inst_fits
  rw [shp_form ⟨by omega, ho.2⟩, h1, h2, h3, show (127 : Int) = ((2 ^ 7 - 1 : Nat) : Int) from rfl, and32 w 7 hw (by omega), ibits hw (by omega) (by omega), Option.bind_some,
    show (2 : Int) ^ (min (Int.toNat 25) (IntKind.bits .u32)) = 33554432 from rfl, Int.fdiv_eq_ediv_of_nonneg _ (by omega), show ((w : Int) / 33554432) = ((w / 33554432 : Nat) : Int) by omega, bne, bne, beqn, beqn, beqn]
  simp only [Int.reduceToNat, Nat.reducePow]
  by_cases hF : Fits o w
  · rw [dt hF]
    unfold Fits at hF
    generalize formOf o = f at *
    have e1 := hF.1
    rw [dt e1]
    rcases hF.2 with h | h | ⟨h, h'⟩
    · rw [h]; rfl
    · rw [h]; rfl
    · rw [dt h]
      cases f == 85 <;> cases f == 74 <;> try rfl
      rcases h' with h' | h'
      · rw [show (f != 82) = true by simpa using h'.1, show (f != 72) = true by simpa using h'.2]; rfl
      · rw [dt h']
        cases f != 82 <;> cases f != 72 <;> rfl
  · rw [df hF]
    unfold Fits at hF
    generalize formOf o = f at *
    by_cases e1 : w % 128 = cNq o
    · rw [dt e1]
      by_cases a1 : f = 85
      · exact absurd ⟨e1, .inl a1⟩ hF
      by_cases a2 : f = 74
      · exact absurd ⟨e1, .inr (.inl a2)⟩ hF
      rw [show (f == 85) = false by simpa using a1, show (f == 74) = false by simpa using a2]
      by_cases e2 : w / 4096 % 8 = tN o
      · rw [dt e2]
        by_cases e3 : w / 33554432 = sNq o
        · exact absurd ⟨e1, .inr (.inr ⟨e2, .inr e3⟩)⟩ hF
        · rw [df e3]
          by_cases a3 : f = 82
          · subst a3; rfl
          by_cases a4 : f = 72
          · subst a4; rfl
          exact absurd ⟨e1, .inr (.inr ⟨e2, .inl ⟨a3, a4⟩⟩)⟩ hF
      · rw [df e2]; rfl
    · rw [df e1]; rfl
theorem dec_right {w : Nat} {o : Int} (hf : formOf o ≠ 0) : rightB (decI o w) = true := by
  have hr : ∀ (b : Bool) (n : Nat), n < 32 → regB (bif b then (n : Int) else 0) b = true := by
    intro b n hn
    cases b with
    | false => rfl
    | true =>
      simp only [regB, cond_true, Bool.and_eq_true, decide_eq_true_eq]
      omega
  have hi : immB (formOf o) (immF (formOf o) w) = true := by
    unfold immB ref02_room immF
    obtain ⟨x0, e0, h0⟩ := fN w 4096 1048576 (by decide)
    obtain ⟨x1, e1, h1⟩ := fN w 2147483648 2 (by decide)
    obtain ⟨x2, e2, h2⟩ := fN w 2097152 1024 (by decide)
    obtain ⟨x3, e3, h3⟩ := fN w 1048576 2 (by decide)
    obtain ⟨x4, e4, h4⟩ := fN w 4096 256 (by decide)
    obtain ⟨x5, e5, h5⟩ := fN w 1048576 4096 (by decide)
    obtain ⟨x6, e6, h6⟩ := fN w 1048576 32 (by decide)
    obtain ⟨x7, e7, h7⟩ := fN w 33554432 128 (by decide)
    obtain ⟨x8, e8, h8⟩ := fN w 128 32 (by decide)
    obtain ⟨y1, f1, g1⟩ := fN w 33554432 64 (by decide)
    obtain ⟨y2, f2, g2⟩ := fN w 256 16 (by decide)
    obtain ⟨y3, f3, g3⟩ := fN w 128 2 (by decide)
    rw [e0, e1, e2, e3, e4, e5, e6, e7, e8, f1, f2, f3]
    clear e0 e1 e2 e3 e4 e5 e6 e7 e8 f1 f2 f3
    rcases forms o with e | e | e | e | e | e | e | e
    · exact absurd e hf
    all_goals
      rw [e]
      simp (config := { decide := true }) only [Int.reduceBEq, cond_true, cond_false, tm0, bb2, Option.getD_some, if_true, if_false]
    all_goals first | rfl | skip
    all_goals
      rw [decide_eq_true_eq]
      first | (split <;> omega) | omega
  have hfb : (formOf o != 0) = true := by simpa using hf
  unfold rightB
  simp only [Bool.and_eq_true]
  exact ⟨⟨⟨⟨hfb, hr (hasD (formOf o)) (w / 128 % 32) (Nat.mod_lt _ (by decide))⟩, hr (has1 (formOf o)) (w / 32768 % 32) (Nat.mod_lt _ (by decide))⟩, hr (has2 (formOf o)) (w / 1048576 % 32) (Nat.mod_lt _ (by decide))⟩, hi⟩
def sprN (f : Int) (w : Nat) : Nat :=
  if f = 85 then w / 4096 % 1048576 * 4096
  else if f = 74 then w / 2147483648 % 2 * 2147483648 + w / 2097152 % 1024 * 2097152 + w / 1048576 % 2 * 1048576 + w / 4096 % 256 * 4096
  else if f = 73 then w / 1048576 % 4096 * 1048576
  else if f = 72 then w / 1048576 % 32 * 1048576
  else if f = 83 then w / 128 % 32 * 128 + w / 33554432 % 128 * 33554432
  else if f = 66 then w / 2147483648 % 2 * 2147483648 + w / 33554432 % 64 * 33554432 + w / 256 % 16 * 256 + w / 128 % 2 * 128
  else 0
def immN (f : Int) (w : Nat) : Nat :=
  if f = 85 then w / 4096 % 1048576 * 4096
  else if f = 74 then w / 2097152 % 1024 * 2 + w / 1048576 % 2 * 2048 + w / 4096 % 256 * 4096 + w / 2147483648 % 2 * 4293918720
  else if f = 73 then (if 2048 ≤ w / 1048576 % 4096 then w / 1048576 % 4096 + 4294963200 else w / 1048576 % 4096)
  else if f = 72 then w / 1048576 % 32
  else if f = 83 then (if 64 ≤ w / 33554432 % 128 then w / 33554432 % 128 * 32 + w / 128 % 32 + 4294963200 else w / 33554432 % 128 * 32 + w / 128 % 32)
  else if f = 66 then w / 33554432 % 64 * 32 + w / 256 % 16 * 2 + w / 128 % 2 * 2048 + w / 2147483648 % 2 * 4294963200
  else 0
theorem immN_at (f : Int) (w : Nat) : immN f w < 4294967296 ∧ ((immF f w < 0 ∧ immF f w + 4294967296 = (immN f w : Int)) ∨ (0 ≤ immF f w ∧ immF f w = (immN f w : Int))) := by
  unfold immN immF
  obtain ⟨x0, e0, h0⟩ := fN w 4096 1048576 (by decide)
  obtain ⟨x1, e1, h1⟩ := fN w 2147483648 2 (by decide)
  obtain ⟨x2, e2, h2⟩ := fN w 2097152 1024 (by decide)
  obtain ⟨x3, e3, h3⟩ := fN w 1048576 2 (by decide)
  obtain ⟨x4, e4, h4⟩ := fN w 4096 256 (by decide)
  obtain ⟨x5, e5, h5⟩ := fN w 1048576 4096 (by decide)
  obtain ⟨x6, e6, h6⟩ := fN w 1048576 32 (by decide)
  obtain ⟨x7, e7, h7⟩ := fN w 33554432 128 (by decide)
  obtain ⟨x8, e8, h8⟩ := fN w 128 32 (by decide)
  obtain ⟨y1, f1, g1⟩ := fN w 33554432 64 (by decide)
  obtain ⟨y2, f2, g2⟩ := fN w 256 16 (by decide)
  obtain ⟨y3, f3, g3⟩ := fN w 128 2 (by decide)
  rw [e0, e1, e2, e3, e4, e5, e6, e7, e8, f1, f2, f3]
  clear e0 e1 e2 e3 e4 e5 e6 e7 e8 f1 f2 f3
  by_cases h : f = 85
  · rw [if_pos h, if_pos h]; clear h1 h2 h3 h4 h5 h6 h7 h8 g1 g2 g3; split <;> omega
  rw [if_neg h, if_neg h]
  by_cases h : f = 74
  · rw [if_pos h, if_pos h]; clear h0 h5 h6 h7 h8 g1 g2 g3; omega
  rw [if_neg h, if_neg h]
  by_cases h : f = 73
  · rw [if_pos h, if_pos h]; clear h0 h1 h2 h3 h4 h6 h7 h8 g1 g2 g3; split <;> omega
  rw [if_neg h, if_neg h]
  by_cases h : f = 72
  · rw [if_pos h, if_pos h]; clear h0 h1 h2 h3 h4 h5 h7 h8 g1 g2 g3; omega
  rw [if_neg h, if_neg h]
  by_cases h : f = 83
  · rw [if_pos h, if_pos h]; clear h0 h1 h2 h3 h4 h5 h6 g1 g2 g3; split <;> omega
  rw [if_neg h, if_neg h]
  by_cases h : f = 66
  · rw [if_pos h, if_pos h]; clear h0 h2 h3 h4 h5 h6 h7 h8; omega
  rw [if_neg h, if_neg h]
  omega
theorem mvP {n : Int} {w : Nat} (hw : w < 4294967296) (h : (n < 0 ∧ n + 4294967296 = (w : Int)) ∨ (0 ≤ n ∧ n = (w : Int))) {a b c : Int} {p q r : Nat} (ha : 0 ≤ a ∧ a ≤ b ∧ b < 32) (hc : 0 ≤ c ∧ c + (b - a + 1) ≤ 32)
    (hp : 2 ^ a.toNat = p) (hq : 2 ^ (b - a + 1).toNat = q) (hr : 2 ^ c.toNat = r) : ref02_move n a b c = some ((w / p % q * r : Nat) : Int) := by
  subst hp hq hr
  exact move_eq hw h ha hc
theorem w64_2 {a b : Int} (ha : 0 ≤ a ∧ a ≤ 4294967296) (hb : 0 ≤ b ∧ b ≤ 4294967296) : IntKind.wrap .i64 (a + b) = a + b := w64 (by omega)
theorem w64_4 {a b c d : Int} (ha : 0 ≤ a ∧ a ≤ 4294967296) (hb : 0 ≤ b ∧ b ≤ 4294967296) (hc : 0 ≤ c ∧ c ≤ 4294967296) (hd : 0 ≤ d ∧ d ≤ 4294967296) :
    IntKind.wrap .i64 (IntKind.wrap .i64 (IntKind.wrap .i64 (a + b) + c) + d) = a + b + c + d := by
  rw [w64 (x := a + b) (by omega), w64 (x := a + b + c) (by omega), w64 (by omega)]
theorem Spread_eq {w : Nat} {o : Int} (hf : formOf o ≠ 0) : ref02_Spread (formOf o) (immF (formOf o) w) = some ((sprN (formOf o) w : Nat) : Int) := by
  obtain ⟨hN, hA⟩ := immN_at (formOf o) w
  have mv := fun {a b c : Int} {p q r : Nat} ha hc hp hq hr => mvP hN hA (a := a) (b := b) (c := c) (p := p) (q := q) (r := r) ha hc hp hq hr
  clear hN hA
  unfold ref02_Spread sprN
  unfold immN at mv
  generalize immF (formOf o) w = n at mv ⊢
  obtain ⟨x0, e0, h0⟩ := fN w 4096 1048576 (by decide)
  obtain ⟨x1, e1, h1⟩ := fN w 2147483648 2 (by decide)
  obtain ⟨x2, e2, h2⟩ := fN w 2097152 1024 (by decide)
  obtain ⟨x3, e3, h3⟩ := fN w 1048576 2 (by decide)
  obtain ⟨x4, e4, h4⟩ := fN w 4096 256 (by decide)
  obtain ⟨x5, e5, h5⟩ := fN w 1048576 4096 (by decide)
  obtain ⟨x6, e6, h6⟩ := fN w 1048576 32 (by decide)
  obtain ⟨x7, e7, h7⟩ := fN w 33554432 128 (by decide)
  obtain ⟨x8, e8, h8⟩ := fN w 128 32 (by decide)
  obtain ⟨y1, f1, g1⟩ := fN w 33554432 64 (by decide)
  obtain ⟨y2, f2, g2⟩ := fN w 256 16 (by decide)
  obtain ⟨y3, f3, g3⟩ := fN w 128 2 (by decide)
  rw [e0, e1, e2, e3, e4, e5, e6, e7, e8, f1, f2, f3]
  simp only [e0, e1, e2, e3, e4, e5, e6, e7, e8, f1, f2, f3] at mv
  clear e0 e1 e2 e3 e4 e5 e6 e7 e8 f1 f2 f3
  have cf : ∀ {a b : Int} {A : Type} {x y : A}, a ≠ b → (bif a == b then x else y) = y := fun h => c0 (by simpa using h)
  have ct : ∀ {a : Int} {A : Type} {x y : A}, (bif a == a then x else y) = x := c1 (by simp)
  generalize formOf o = f at *
  by_cases h : f = 85
  · subst h
    simp only [if_true] at mv ⊢
    rw [ct, mv (a := 12) (b := 31) (c := 12) (p := 4096) (q := 1048576) (r := 4096) (by decide) (by decide) (by decide) (by decide) (by decide), Option.bind_some]
    clear mv cf ct
    refine congrArg (fun z : Nat => some (z : Int)) ?_
    omega
  rw [if_neg h, cf h]; simp only [if_neg h] at mv
  by_cases h : f = 74
  · subst h
    simp only [if_true] at mv ⊢
    rw [ct, mv (a := 20) (b := 20) (c := 31) (p := 1048576) (q := 2) (r := 2147483648) (by decide) (by decide) (by decide) (by decide) (by decide), Option.bind_some,
      mv (a := 1) (b := 10) (c := 21) (p := 2) (q := 1024) (r := 2097152) (by decide) (by decide) (by decide) (by decide) (by decide), Option.bind_some,
      mv (a := 11) (b := 11) (c := 20) (p := 2048) (q := 2) (r := 1048576) (by decide) (by decide) (by decide) (by decide) (by decide), Option.bind_some,
      mv (a := 12) (b := 19) (c := 12) (p := 4096) (q := 256) (r := 4096) (by decide) (by decide) (by decide) (by decide) (by decide), Option.bind_some]
    clear mv cf ct
    have q0 : (x2 * 2 + x3 * 2048 + x4 * 4096 + x1 * 4293918720) / 1048576 % 2 = x1 := by omega
    have q1 : (x2 * 2 + x3 * 2048 + x4 * 4096 + x1 * 4293918720) / 2 % 1024 = x2 := by omega
    have q2 : (x2 * 2 + x3 * 2048 + x4 * 4096 + x1 * 4293918720) / 2048 % 2 = x3 := by omega
    have q3 : (x2 * 2 + x3 * 2048 + x4 * 4096 + x1 * 4293918720) / 4096 % 256 = x4 := by omega
    simp only [q0, q1, q2, q3]
    exact congrArg some ((w64_4 (by omega) (by omega) (by omega) (by omega)).trans (by omega))
  rw [if_neg h, cf h]; simp only [if_neg h] at mv
  by_cases h : f = 73
  · subst h
    simp only [if_true] at mv ⊢
    rw [ct, mv (a := 0) (b := 11) (c := 20) (p := 1) (q := 4096) (r := 1048576) (by decide) (by decide) (by decide) (by decide) (by decide), Option.bind_some]
    clear mv cf ct
    refine congrArg (fun z : Nat => some (z : Int)) ?_
    split <;> omega
  rw [if_neg h, cf h]; simp only [if_neg h] at mv
  by_cases h : f = 72
  · subst h
    simp only [if_true] at mv ⊢
    rw [ct, mv (a := 0) (b := 4) (c := 20) (p := 1) (q := 32) (r := 1048576) (by decide) (by decide) (by decide) (by decide) (by decide), Option.bind_some]
    clear mv cf ct
    refine congrArg (fun z : Nat => some (z : Int)) ?_
    omega
  rw [if_neg h, cf h]; simp only [if_neg h] at mv
  by_cases h : f = 83
  · subst h
    simp only [if_true] at mv ⊢
    rw [ct, mv (a := 0) (b := 4) (c := 7) (p := 1) (q := 32) (r := 128) (by decide) (by decide) (by decide) (by decide) (by decide), Option.bind_some,
      mv (a := 5) (b := 11) (c := 25) (p := 32) (q := 128) (r := 33554432) (by decide) (by decide) (by decide) (by decide) (by decide), Option.bind_some]
    clear mv cf ct
    have z1 : (if 64 ≤ x7 then x7 * 32 + x8 + 4294963200 else x7 * 32 + x8) / 1 % 32 = x8 := by split <;> omega
    have z2 : (if 64 ≤ x7 then x7 * 32 + x8 + 4294963200 else x7 * 32 + x8) / 32 % 128 = x7 := by split <;> omega
    simp only [z1, z2]
    exact congrArg some ((w64_2 (by omega) (by omega)).trans (by omega))
  rw [if_neg h, cf h]; simp only [if_neg h] at mv
  by_cases h : f = 66
  · subst h
    simp only [if_true] at mv ⊢
    rw [ct, mv (a := 12) (b := 12) (c := 31) (p := 4096) (q := 2) (r := 2147483648) (by decide) (by decide) (by decide) (by decide) (by decide), Option.bind_some,
      mv (a := 5) (b := 10) (c := 25) (p := 32) (q := 64) (r := 33554432) (by decide) (by decide) (by decide) (by decide) (by decide), Option.bind_some,
      mv (a := 1) (b := 4) (c := 8) (p := 2) (q := 16) (r := 256) (by decide) (by decide) (by decide) (by decide) (by decide), Option.bind_some,
      mv (a := 11) (b := 11) (c := 7) (p := 2048) (q := 2) (r := 128) (by decide) (by decide) (by decide) (by decide) (by decide), Option.bind_some]
    clear mv cf ct
    have q0 : (y1 * 32 + y2 * 2 + y3 * 2048 + x1 * 4294963200) / 4096 % 2 = x1 := by omega
    have q1 : (y1 * 32 + y2 * 2 + y3 * 2048 + x1 * 4294963200) / 32 % 64 = y1 := by omega
    have q2 : (y1 * 32 + y2 * 2 + y3 * 2048 + x1 * 4294963200) / 2 % 16 = y2 := by omega
    have q3 : (y1 * 32 + y2 * 2 + y3 * 2048 + x1 * 4294963200) / 2048 % 2 = y3 := by omega
    simp only [q0, q1, q2, q3]
    exact congrArg some ((w64_4 (by omega) (by omega) (by omega) (by omega)).trans (by omega))
  rw [if_neg h, cf h]
  rfl
theorem dcmp82 {w : Nat} (hw : w < 4294967296) : w = w % 128 + w / 128 % 32 * 128 + w / 4096 % 8 * 4096 + w / 32768 % 32 * 32768 + w / 1048576 % 32 * 1048576 + w / 33554432 % 128 * 33554432 := by
  have h1 : w / 128 = w / 128 % 32 + w / 4096 * 32 := by omega
  have h2 : w / 4096 = w / 4096 % 8 + w / 32768 * 8 := by omega
  have h3 : w / 32768 = w / 32768 % 32 + w / 1048576 * 32 := by omega
  have h4 : w / 1048576 = w / 1048576 % 32 + w / 33554432 * 32 := by omega
  have hl : w / 33554432 % 128 = w / 33554432 := by omega
  have h0 : w = w % 128 + w / 128 * 128 := by omega
  rw [hl]
  generalize w % 128 = x0 at *
  generalize w / 128 % 32 = x1 at *
  generalize w / 4096 % 8 = x2 at *
  generalize w / 32768 % 32 = x3 at *
  generalize w / 1048576 % 32 = x4 at *
  generalize w / 33554432 = y5 at *
  generalize w / 128 = y1 at *
  generalize w / 4096 = y2 at *
  generalize w / 32768 = y3 at *
  generalize w / 1048576 = y4 at *
  omega
theorem dcmp72 {w : Nat} (hw : w < 4294967296) : w = w % 128 + w / 128 % 32 * 128 + w / 4096 % 8 * 4096 + w / 32768 % 32 * 32768 + w / 1048576 % 32 * 1048576 + w / 33554432 % 128 * 33554432 := by
  have h1 : w / 128 = w / 128 % 32 + w / 4096 * 32 := by omega
  have h2 : w / 4096 = w / 4096 % 8 + w / 32768 * 8 := by omega
  have h3 : w / 32768 = w / 32768 % 32 + w / 1048576 * 32 := by omega
  have h4 : w / 1048576 = w / 1048576 % 32 + w / 33554432 * 32 := by omega
  have hl : w / 33554432 % 128 = w / 33554432 := by omega
  have h0 : w = w % 128 + w / 128 * 128 := by omega
  rw [hl]
  generalize w % 128 = x0 at *
  generalize w / 128 % 32 = x1 at *
  generalize w / 4096 % 8 = x2 at *
  generalize w / 32768 % 32 = x3 at *
  generalize w / 1048576 % 32 = x4 at *
  generalize w / 33554432 = y5 at *
  generalize w / 128 = y1 at *
  generalize w / 4096 = y2 at *
  generalize w / 32768 = y3 at *
  generalize w / 1048576 = y4 at *
  omega
theorem dcmp85 {w : Nat} (hw : w < 4294967296) : w = w % 128 + w / 128 % 32 * 128 + w / 4096 % 1048576 * 4096 := by
  have h1 : w / 128 = w / 128 % 32 + w / 4096 * 32 := by omega
  have hl : w / 4096 % 1048576 = w / 4096 := by omega
  have h0 : w = w % 128 + w / 128 * 128 := by omega
  rw [hl]
  generalize w % 128 = x0 at *
  generalize w / 128 % 32 = x1 at *
  generalize w / 4096 = y2 at *
  generalize w / 128 = y1 at *
  omega
theorem dcmp74 {w : Nat} (hw : w < 4294967296) : w = w % 128 + w / 128 % 32 * 128 + w / 4096 % 256 * 4096 + w / 1048576 % 2 * 1048576 + w / 2097152 % 1024 * 2097152 + w / 2147483648 % 2 * 2147483648 := by
  have h1 : w / 128 = w / 128 % 32 + w / 4096 * 32 := by omega
  have h2 : w / 4096 = w / 4096 % 256 + w / 1048576 * 256 := by omega
  have h3 : w / 1048576 = w / 1048576 % 2 + w / 2097152 * 2 := by omega
  have h4 : w / 2097152 = w / 2097152 % 1024 + w / 2147483648 * 1024 := by omega
  have hl : w / 2147483648 % 2 = w / 2147483648 := by omega
  have h0 : w = w % 128 + w / 128 * 128 := by omega
  rw [hl]
  generalize w % 128 = x0 at *
  generalize w / 128 % 32 = x1 at *
  generalize w / 4096 % 256 = x2 at *
  generalize w / 1048576 % 2 = x3 at *
  generalize w / 2097152 % 1024 = x4 at *
  generalize w / 2147483648 = y5 at *
  generalize w / 128 = y1 at *
  generalize w / 4096 = y2 at *
  generalize w / 1048576 = y3 at *
  generalize w / 2097152 = y4 at *
  omega
theorem dcmp66 {w : Nat} (hw : w < 4294967296) : w = w % 128 + w / 128 % 2 * 128 + w / 256 % 16 * 256 + w / 4096 % 8 * 4096 + w / 32768 % 32 * 32768 + w / 1048576 % 32 * 1048576 + w / 33554432 % 64 * 33554432 + w / 2147483648 % 2 * 2147483648 := by
  have h1 : w / 128 = w / 128 % 2 + w / 256 * 2 := by omega
  have h2 : w / 256 = w / 256 % 16 + w / 4096 * 16 := by omega
  have h3 : w / 4096 = w / 4096 % 8 + w / 32768 * 8 := by omega
  have h4 : w / 32768 = w / 32768 % 32 + w / 1048576 * 32 := by omega
  have h5 : w / 1048576 = w / 1048576 % 32 + w / 33554432 * 32 := by omega
  have h6 : w / 33554432 = w / 33554432 % 64 + w / 2147483648 * 64 := by omega
  have hl : w / 2147483648 % 2 = w / 2147483648 := by omega
  have h0 : w = w % 128 + w / 128 * 128 := by omega
  rw [hl]
  generalize w % 128 = x0 at *
  generalize w / 128 % 2 = x1 at *
  generalize w / 256 % 16 = x2 at *
  generalize w / 4096 % 8 = x3 at *
  generalize w / 32768 % 32 = x4 at *
  generalize w / 1048576 % 32 = x5 at *
  generalize w / 33554432 % 64 = x6 at *
  generalize w / 2147483648 = y7 at *
  generalize w / 128 = y1 at *
  generalize w / 256 = y2 at *
  generalize w / 4096 = y3 at *
  generalize w / 32768 = y4 at *
  generalize w / 1048576 = y5 at *
  generalize w / 33554432 = y6 at *
  omega
theorem dcmp83 {w : Nat} (hw : w < 4294967296) : w = w % 128 + w / 128 % 32 * 128 + w / 4096 % 8 * 4096 + w / 32768 % 32 * 32768 + w / 1048576 % 32 * 1048576 + w / 33554432 % 128 * 33554432 := by
  have h1 : w / 128 = w / 128 % 32 + w / 4096 * 32 := by omega
  have h2 : w / 4096 = w / 4096 % 8 + w / 32768 * 8 := by omega
  have h3 : w / 32768 = w / 32768 % 32 + w / 1048576 * 32 := by omega
  have h4 : w / 1048576 = w / 1048576 % 32 + w / 33554432 * 32 := by omega
  have hl : w / 33554432 % 128 = w / 33554432 := by omega
  have h0 : w = w % 128 + w / 128 * 128 := by omega
  rw [hl]
  generalize w % 128 = x0 at *
  generalize w / 128 % 32 = x1 at *
  generalize w / 4096 % 8 = x2 at *
  generalize w / 32768 % 32 = x3 at *
  generalize w / 1048576 % 32 = x4 at *
  generalize w / 33554432 = y5 at *
  generalize w / 128 = y1 at *
  generalize w / 4096 = y2 at *
  generalize w / 32768 = y3 at *
  generalize w / 1048576 = y4 at *
  omega
theorem dcmp73 {w : Nat} (hw : w < 4294967296) : w = w % 128 + w / 128 % 32 * 128 + w / 4096 % 8 * 4096 + w / 32768 % 32 * 32768 + w / 1048576 % 4096 * 1048576 := by
  have h1 : w / 128 = w / 128 % 32 + w / 4096 * 32 := by omega
  have h2 : w / 4096 = w / 4096 % 8 + w / 32768 * 8 := by omega
  have h3 : w / 32768 = w / 32768 % 32 + w / 1048576 * 32 := by omega
  have hl : w / 1048576 % 4096 = w / 1048576 := by omega
  have h0 : w = w % 128 + w / 128 * 128 := by omega
  rw [hl]
  generalize w % 128 = x0 at *
  generalize w / 128 % 32 = x1 at *
  generalize w / 4096 % 8 = x2 at *
  generalize w / 32768 % 32 = x3 at *
  generalize w / 1048576 = y4 at *
  generalize w / 128 = y1 at *
  generalize w / 4096 = y2 at *
  generalize w / 32768 = y3 at *
  omega
theorem sum82 {w c t s : Nat} (hw : w < 4294967296) (hc : c < 128) (ht : t < 8) (hs : s < 128) : c + w / 128 % 32 * 128 + t * 4096 + w / 32768 % 32 * 32768 + w / 1048576 % 32 * 1048576 + s * 33554432 + (0) < 4294967296 ∧ (c + w / 128 % 32 * 128 + t * 4096 + w / 32768 % 32 * 32768 + w / 1048576 % 32 * 1048576 + s * 33554432 + (0) = w ↔ w % 128 = c ∧ w / 4096 % 8 = t ∧ w / 33554432 % 128 = s) := by
  have hp := dcmp82 hw
  obtain ⟨x0, e0, g0⟩ := fN w 1 128 (by decide)
  rw [Nat.div_one] at e0
  obtain ⟨x1, e1, g1⟩ := fN w 128 32 (by decide)
  obtain ⟨x2, e2, g2⟩ := fN w 4096 8 (by decide)
  obtain ⟨x3, e3, g3⟩ := fN w 32768 32 (by decide)
  obtain ⟨x4, e4, g4⟩ := fN w 1048576 32 (by decide)
  obtain ⟨x5, e5, g5⟩ := fN w 33554432 128 (by decide)
  rw [e0, e1, e2, e3, e4, e5] at hp ⊢
  clear e0 e1 e2 e3 e4 e5
  omega
theorem sum72 {w c t s : Nat} (hw : w < 4294967296) (hc : c < 128) (ht : t < 8) (hs : s < 128) : c + w / 128 % 32 * 128 + t * 4096 + w / 32768 % 32 * 32768 + 0 * 1048576 + s * 33554432 + (w / 1048576 % 32 * 1048576) < 4294967296 ∧ (c + w / 128 % 32 * 128 + t * 4096 + w / 32768 % 32 * 32768 + 0 * 1048576 + s * 33554432 + (w / 1048576 % 32 * 1048576) = w ↔ w % 128 = c ∧ w / 4096 % 8 = t ∧ w / 33554432 % 128 = s) := by
  have hp := dcmp72 hw
  obtain ⟨x0, e0, g0⟩ := fN w 1 128 (by decide)
  rw [Nat.div_one] at e0
  obtain ⟨x1, e1, g1⟩ := fN w 128 32 (by decide)
  obtain ⟨x2, e2, g2⟩ := fN w 4096 8 (by decide)
  obtain ⟨x3, e3, g3⟩ := fN w 32768 32 (by decide)
  obtain ⟨x4, e4, g4⟩ := fN w 1048576 32 (by decide)
  obtain ⟨x5, e5, g5⟩ := fN w 33554432 128 (by decide)
  rw [e0, e1, e2, e3, e4, e5] at hp ⊢
  clear e0 e1 e2 e3 e4 e5
  omega
theorem sum85 {w c t s : Nat} (hw : w < 4294967296) (hc : c < 128) (ht : t < 8) (hs : s < 128) : c + w / 128 % 32 * 128 + 0 * 4096 + 0 * 32768 + 0 * 1048576 + 0 * 33554432 + (w / 4096 % 1048576 * 4096) < 4294967296 ∧ (c + w / 128 % 32 * 128 + 0 * 4096 + 0 * 32768 + 0 * 1048576 + 0 * 33554432 + (w / 4096 % 1048576 * 4096) = w ↔ w % 128 = c) := by
  have hp := dcmp85 hw
  obtain ⟨x0, e0, g0⟩ := fN w 1 128 (by decide)
  rw [Nat.div_one] at e0
  obtain ⟨x1, e1, g1⟩ := fN w 128 32 (by decide)
  obtain ⟨x2, e2, g2⟩ := fN w 4096 1048576 (by decide)
  rw [e0, e1, e2] at hp ⊢
  clear e0 e1 e2
  omega
theorem sum74 {w c t s : Nat} (hw : w < 4294967296) (hc : c < 128) (ht : t < 8) (hs : s < 128) : c + w / 128 % 32 * 128 + 0 * 4096 + 0 * 32768 + 0 * 1048576 + 0 * 33554432 + (w / 2147483648 % 2 * 2147483648 + w / 2097152 % 1024 * 2097152 + w / 1048576 % 2 * 1048576 + w / 4096 % 256 * 4096) < 4294967296 ∧ (c + w / 128 % 32 * 128 + 0 * 4096 + 0 * 32768 + 0 * 1048576 + 0 * 33554432 + (w / 2147483648 % 2 * 2147483648 + w / 2097152 % 1024 * 2097152 + w / 1048576 % 2 * 1048576 + w / 4096 % 256 * 4096) = w ↔ w % 128 = c) := by
  have hp := dcmp74 hw
  obtain ⟨x0, e0, g0⟩ := fN w 1 128 (by decide)
  rw [Nat.div_one] at e0
  obtain ⟨x1, e1, g1⟩ := fN w 128 32 (by decide)
  obtain ⟨x2, e2, g2⟩ := fN w 4096 256 (by decide)
  obtain ⟨x3, e3, g3⟩ := fN w 1048576 2 (by decide)
  obtain ⟨x4, e4, g4⟩ := fN w 2097152 1024 (by decide)
  obtain ⟨x5, e5, g5⟩ := fN w 2147483648 2 (by decide)
  rw [e0, e1, e2, e3, e4, e5] at hp ⊢
  clear e0 e1 e2 e3 e4 e5
  omega
theorem sum66 {w c t s : Nat} (hw : w < 4294967296) (hc : c < 128) (ht : t < 8) (hs : s < 128) : c + 0 * 128 + t * 4096 + w / 32768 % 32 * 32768 + w / 1048576 % 32 * 1048576 + 0 * 33554432 + (w / 2147483648 % 2 * 2147483648 + w / 33554432 % 64 * 33554432 + w / 256 % 16 * 256 + w / 128 % 2 * 128) < 4294967296 ∧ (c + 0 * 128 + t * 4096 + w / 32768 % 32 * 32768 + w / 1048576 % 32 * 1048576 + 0 * 33554432 + (w / 2147483648 % 2 * 2147483648 + w / 33554432 % 64 * 33554432 + w / 256 % 16 * 256 + w / 128 % 2 * 128) = w ↔ w % 128 = c ∧ w / 4096 % 8 = t) := by
  have hp := dcmp66 hw
  obtain ⟨x0, e0, g0⟩ := fN w 1 128 (by decide)
  rw [Nat.div_one] at e0
  obtain ⟨x1, e1, g1⟩ := fN w 128 2 (by decide)
  obtain ⟨x2, e2, g2⟩ := fN w 256 16 (by decide)
  obtain ⟨x3, e3, g3⟩ := fN w 4096 8 (by decide)
  obtain ⟨x4, e4, g4⟩ := fN w 32768 32 (by decide)
  obtain ⟨x5, e5, g5⟩ := fN w 1048576 32 (by decide)
  obtain ⟨x6, e6, g6⟩ := fN w 33554432 64 (by decide)
  obtain ⟨x7, e7, g7⟩ := fN w 2147483648 2 (by decide)
  rw [e0, e1, e2, e3, e4, e5, e6, e7] at hp ⊢
  clear e0 e1 e2 e3 e4 e5 e6 e7
  omega
theorem sum83 {w c t s : Nat} (hw : w < 4294967296) (hc : c < 128) (ht : t < 8) (hs : s < 128) : c + 0 * 128 + t * 4096 + w / 32768 % 32 * 32768 + w / 1048576 % 32 * 1048576 + 0 * 33554432 + (w / 128 % 32 * 128 + w / 33554432 % 128 * 33554432) < 4294967296 ∧ (c + 0 * 128 + t * 4096 + w / 32768 % 32 * 32768 + w / 1048576 % 32 * 1048576 + 0 * 33554432 + (w / 128 % 32 * 128 + w / 33554432 % 128 * 33554432) = w ↔ w % 128 = c ∧ w / 4096 % 8 = t) := by
  have hp := dcmp83 hw
  obtain ⟨x0, e0, g0⟩ := fN w 1 128 (by decide)
  rw [Nat.div_one] at e0
  obtain ⟨x1, e1, g1⟩ := fN w 128 32 (by decide)
  obtain ⟨x2, e2, g2⟩ := fN w 4096 8 (by decide)
  obtain ⟨x3, e3, g3⟩ := fN w 32768 32 (by decide)
  obtain ⟨x4, e4, g4⟩ := fN w 1048576 32 (by decide)
  obtain ⟨x5, e5, g5⟩ := fN w 33554432 128 (by decide)
  rw [e0, e1, e2, e3, e4, e5] at hp ⊢
  clear e0 e1 e2 e3 e4 e5
  omega
theorem sum73 {w c t s : Nat} (hw : w < 4294967296) (hc : c < 128) (ht : t < 8) (hs : s < 128) : c + w / 128 % 32 * 128 + t * 4096 + w / 32768 % 32 * 32768 + 0 * 1048576 + 0 * 33554432 + (w / 1048576 % 4096 * 1048576) < 4294967296 ∧ (c + w / 128 % 32 * 128 + t * 4096 + w / 32768 % 32 * 32768 + 0 * 1048576 + 0 * 33554432 + (w / 1048576 % 4096 * 1048576) = w ↔ w % 128 = c ∧ w / 4096 % 8 = t) := by
  have hp := dcmp73 hw
  obtain ⟨x0, e0, g0⟩ := fN w 1 128 (by decide)
  rw [Nat.div_one] at e0
  obtain ⟨x1, e1, g1⟩ := fN w 128 32 (by decide)
  obtain ⟨x2, e2, g2⟩ := fN w 4096 8 (by decide)
  obtain ⟨x3, e3, g3⟩ := fN w 32768 32 (by decide)
  obtain ⟨x4, e4, g4⟩ := fN w 1048576 4096 (by decide)
  rw [e0, e1, e2, e3, e4] at hp ⊢
  clear e0 e1 e2 e3 e4
  omega
theorem w64_7 {a b c d e f g : Int} (ha : 0 ≤ a ∧ a ≤ 4294967296) (hb : 0 ≤ b ∧ b ≤ 4294967296) (hc : 0 ≤ c ∧ c ≤ 4294967296) (hd : 0 ≤ d ∧ d ≤ 4294967296) (he : 0 ≤ e ∧ e ≤ 4294967296) (hf : 0 ≤ f ∧ f ≤ 4294967296) (hg : 0 ≤ g ∧ g ≤ 4294967296) :
    IntKind.wrap .i64 (IntKind.wrap .i64 (IntKind.wrap .i64 (IntKind.wrap .i64 (IntKind.wrap .i64 (IntKind.wrap .i64 (a + b) + c) + d) + e) + f) + g) = a + b + c + d + e + f + g := by
  rw [w64 (x := a + b) (by omega), w64 (x := a + b + c) (by omega), w64 (x := a + b + c + d) (by omega), w64 (x := a + b + c + d + e) (by omega), w64 (x := a + b + c + d + e + f) (by omega), w64 (by omega)]
theorem Word_sum {i : GInst} {c t s d a b n : Nat} (hd : i.Rd = (d : Int)) (ha : i.Rs1 = (a : Int)) (hb : i.Rs2 = (b : Int)) (kc : ref02_Code i.Op = some (c : Int)) (kt : ref02_Third i.Op = some (t : Int)) (ks : ref02_Seventh i.Op = some (s : Int))
    (kn : ref02_Spread (formOf i.Op) i.Imm = some (n : Int)) (h : c + d * 128 + t * 4096 + a * 32768 + b * 1048576 + s * 33554432 + n < 4294967296) :
    ref02_Word i = some ((c + d * 128 + t * 4096 + a * 32768 + b * 1048576 + s * 33554432 + n : Nat) : Int) := by
  unfold ref02_Word
  rw [rForm_eq, Option.bind_some, kc, Option.bind_some, two_eq (by decide), Option.bind_some, kt, Option.bind_some, two_eq (by decide), Option.bind_some, two_eq (by decide), Option.bind_some, two_eq (by decide), Option.bind_some, ks, Option.bind_some, two_eq (by decide), Option.bind_some, kn, Option.bind_some, hd, ha, hb]
  rw [show ((2 ^ Int.toNat 7 : Nat) : Int) = 128 by decide, show ((2 ^ Int.toNat 12 : Nat) : Int) = 4096 by decide, show ((2 ^ Int.toNat 15 : Nat) : Int) = 32768 by decide, show ((2 ^ Int.toNat 20 : Nat) : Int) = 1048576 by decide, show ((2 ^ Int.toNat 25 : Nat) : Int) = 33554432 by decide]
  have e1 : IntKind.wrap .i64 ((d : Int) * 128) = (d : Int) * 128 := w64 (by omega)
  have e2 : IntKind.wrap .i64 ((t : Int) * 4096) = (t : Int) * 4096 := w64 (by omega)
  have e3 : IntKind.wrap .i64 ((a : Int) * 32768) = (a : Int) * 32768 := w64 (by omega)
  have e4 : IntKind.wrap .i64 ((b : Int) * 1048576) = (b : Int) * 1048576 := w64 (by omega)
  have e5 : IntKind.wrap .i64 ((s : Int) * 33554432) = (s : Int) * 33554432 := w64 (by omega)
  rw [e1, e2, e3, e4, e5]
  rw [w64_7 (by omega) (by omega) (by omega) (by omega) (by omega) (by omega) (by omega)]
  have g : (c : Int) + (d : Int) * 128 + (t : Int) * 4096 + (a : Int) * 32768 + (b : Int) * 1048576 + (s : Int) * 33554432 + (n : Int) = ((c + d * 128 + t * 4096 + a * 32768 + b * 1048576 + s * 33554432 + n : Nat) : Int) := by omega
  rw [g, w32u' h]
theorem fit82 {w : Nat} (hw : w < 4294967296) {o : Int} (e : formOf o = 82) : Fits o w ↔ w % 128 = cNq o ∧ w / 4096 % 8 = tN o ∧ w / 33554432 % 128 = sNq o := by
  unfold Fits
  rw [e]
  omega
theorem wd82 {w : Nat} (hw : w < 4294967296) {o : Int} (ho : 1 ≤ o ∧ o ≤ 45) (e : formOf o = 82) : ∃ v : Nat, ref02_Word (decI o w) = some (v : Int) ∧ (v = w ↔ Fits o w) := by
  obtain ⟨⟨c1, c2, c3⟩, ⟨h1, h2, h3⟩, ⟨k1, k2, k3⟩, hf, z1, z2⟩ := op_parts ho
  have hS := sum82 (c := cNq o) (t := tN o) (s := sNq o) hw h1 h2 h3
  have hN : sprN (formOf o) w = 0 := by rw [e]; rfl
  have hd : (decI o w).Rd = ((w / 128 % 32 : Nat) : Int) := by unfold decI; rw [e]; rfl
  have ha : (decI o w).Rs1 = ((w / 32768 % 32 : Nat) : Int) := by unfold decI; rw [e]; rfl
  have hb : (decI o w).Rs2 = ((w / 1048576 % 32 : Nat) : Int) := by unfold decI; rw [e]; rfl
  have kn := Spread_eq (w := w) hf
  rw [hN] at kn
  exact ⟨_, Word_sum hd ha hb k1 k2 k3 kn hS.1, hS.2.trans (fit82 hw e).symm⟩
theorem fit72 {w : Nat} (hw : w < 4294967296) {o : Int} (e : formOf o = 72) : Fits o w ↔ w % 128 = cNq o ∧ w / 4096 % 8 = tN o ∧ w / 33554432 % 128 = sNq o := by
  unfold Fits
  rw [e]
  omega
theorem wd72 {w : Nat} (hw : w < 4294967296) {o : Int} (ho : 1 ≤ o ∧ o ≤ 45) (e : formOf o = 72) : ∃ v : Nat, ref02_Word (decI o w) = some (v : Int) ∧ (v = w ↔ Fits o w) := by
  obtain ⟨⟨c1, c2, c3⟩, ⟨h1, h2, h3⟩, ⟨k1, k2, k3⟩, hf, z1, z2⟩ := op_parts ho
  have hS := sum72 (c := cNq o) (t := tN o) (s := sNq o) hw h1 h2 h3
  have hN : sprN (formOf o) w = w / 1048576 % 32 * 1048576 := by rw [e]; rfl
  have hd : (decI o w).Rd = ((w / 128 % 32 : Nat) : Int) := by unfold decI; rw [e]; rfl
  have ha : (decI o w).Rs1 = ((w / 32768 % 32 : Nat) : Int) := by unfold decI; rw [e]; rfl
  have hb : (decI o w).Rs2 = ((0 : Nat) : Int) := by unfold decI; rw [e]; rfl
  have kn := Spread_eq (w := w) hf
  rw [hN] at kn
  exact ⟨_, Word_sum hd ha hb k1 k2 k3 kn hS.1, hS.2.trans (fit72 hw e).symm⟩
theorem fit85 {w : Nat} (hw : w < 4294967296) {o : Int} (e : formOf o = 85) : Fits o w ↔ w % 128 = cNq o := by
  unfold Fits
  rw [e]
  omega
theorem wd85 {w : Nat} (hw : w < 4294967296) {o : Int} (ho : 1 ≤ o ∧ o ≤ 45) (e : formOf o = 85) : ∃ v : Nat, ref02_Word (decI o w) = some (v : Int) ∧ (v = w ↔ Fits o w) := by
  obtain ⟨⟨c1, c2, c3⟩, ⟨h1, h2, h3⟩, ⟨k1, k2, k3⟩, hf, z1, z2⟩ := op_parts ho
  have ht : tN o = 0 := z1 (by rw [e]; decide)
  have hs : sNq o = 0 := z2 (by rw [e]; decide) (by rw [e]; decide)
  have hS := sum85 (c := cNq o) (t := tN o) (s := sNq o) hw h1 h2 h3
  have hN : sprN (formOf o) w = w / 4096 % 1048576 * 4096 := by rw [e]; rfl
  have hd : (decI o w).Rd = ((w / 128 % 32 : Nat) : Int) := by unfold decI; rw [e]; rfl
  have ha : (decI o w).Rs1 = ((0 : Nat) : Int) := by unfold decI; rw [e]; rfl
  have hb : (decI o w).Rs2 = ((0 : Nat) : Int) := by unfold decI; rw [e]; rfl
  have kn := Spread_eq (w := w) hf
  rw [hN] at kn
  rw [ht] at k2
  rw [hs] at k3
  exact ⟨_, Word_sum hd ha hb k1 k2 k3 kn hS.1, hS.2.trans (fit85 hw e).symm⟩
theorem fit74 {w : Nat} (hw : w < 4294967296) {o : Int} (e : formOf o = 74) : Fits o w ↔ w % 128 = cNq o := by
  unfold Fits
  rw [e]
  omega
theorem wd74 {w : Nat} (hw : w < 4294967296) {o : Int} (ho : 1 ≤ o ∧ o ≤ 45) (e : formOf o = 74) : ∃ v : Nat, ref02_Word (decI o w) = some (v : Int) ∧ (v = w ↔ Fits o w) := by
  obtain ⟨⟨c1, c2, c3⟩, ⟨h1, h2, h3⟩, ⟨k1, k2, k3⟩, hf, z1, z2⟩ := op_parts ho
  have ht : tN o = 0 := z1 (by rw [e]; decide)
  have hs : sNq o = 0 := z2 (by rw [e]; decide) (by rw [e]; decide)
  have hS := sum74 (c := cNq o) (t := tN o) (s := sNq o) hw h1 h2 h3
  have hN : sprN (formOf o) w = w / 2147483648 % 2 * 2147483648 + w / 2097152 % 1024 * 2097152 + w / 1048576 % 2 * 1048576 + w / 4096 % 256 * 4096 := by rw [e]; rfl
  have hd : (decI o w).Rd = ((w / 128 % 32 : Nat) : Int) := by unfold decI; rw [e]; rfl
  have ha : (decI o w).Rs1 = ((0 : Nat) : Int) := by unfold decI; rw [e]; rfl
  have hb : (decI o w).Rs2 = ((0 : Nat) : Int) := by unfold decI; rw [e]; rfl
  have kn := Spread_eq (w := w) hf
  rw [hN] at kn
  rw [ht] at k2
  rw [hs] at k3
  exact ⟨_, Word_sum hd ha hb k1 k2 k3 kn hS.1, hS.2.trans (fit74 hw e).symm⟩
theorem fit66 {w : Nat} (hw : w < 4294967296) {o : Int} (e : formOf o = 66) : Fits o w ↔ w % 128 = cNq o ∧ w / 4096 % 8 = tN o := by
  unfold Fits
  rw [e]
  omega
theorem wd66 {w : Nat} (hw : w < 4294967296) {o : Int} (ho : 1 ≤ o ∧ o ≤ 45) (e : formOf o = 66) : ∃ v : Nat, ref02_Word (decI o w) = some (v : Int) ∧ (v = w ↔ Fits o w) := by
  obtain ⟨⟨c1, c2, c3⟩, ⟨h1, h2, h3⟩, ⟨k1, k2, k3⟩, hf, z1, z2⟩ := op_parts ho
  have hs : sNq o = 0 := z2 (by rw [e]; decide) (by rw [e]; decide)
  have hS := sum66 (c := cNq o) (t := tN o) (s := sNq o) hw h1 h2 h3
  have hN : sprN (formOf o) w = w / 2147483648 % 2 * 2147483648 + w / 33554432 % 64 * 33554432 + w / 256 % 16 * 256 + w / 128 % 2 * 128 := by rw [e]; rfl
  have hd : (decI o w).Rd = ((0 : Nat) : Int) := by unfold decI; rw [e]; rfl
  have ha : (decI o w).Rs1 = ((w / 32768 % 32 : Nat) : Int) := by unfold decI; rw [e]; rfl
  have hb : (decI o w).Rs2 = ((w / 1048576 % 32 : Nat) : Int) := by unfold decI; rw [e]; rfl
  have kn := Spread_eq (w := w) hf
  rw [hN] at kn
  rw [hs] at k3
  exact ⟨_, Word_sum hd ha hb k1 k2 k3 kn hS.1, hS.2.trans (fit66 hw e).symm⟩
theorem fit83 {w : Nat} (hw : w < 4294967296) {o : Int} (e : formOf o = 83) : Fits o w ↔ w % 128 = cNq o ∧ w / 4096 % 8 = tN o := by
  unfold Fits
  rw [e]
  omega
theorem wd83 {w : Nat} (hw : w < 4294967296) {o : Int} (ho : 1 ≤ o ∧ o ≤ 45) (e : formOf o = 83) : ∃ v : Nat, ref02_Word (decI o w) = some (v : Int) ∧ (v = w ↔ Fits o w) := by
  obtain ⟨⟨c1, c2, c3⟩, ⟨h1, h2, h3⟩, ⟨k1, k2, k3⟩, hf, z1, z2⟩ := op_parts ho
  have hs : sNq o = 0 := z2 (by rw [e]; decide) (by rw [e]; decide)
  have hS := sum83 (c := cNq o) (t := tN o) (s := sNq o) hw h1 h2 h3
  have hN : sprN (formOf o) w = w / 128 % 32 * 128 + w / 33554432 % 128 * 33554432 := by rw [e]; rfl
  have hd : (decI o w).Rd = ((0 : Nat) : Int) := by unfold decI; rw [e]; rfl
  have ha : (decI o w).Rs1 = ((w / 32768 % 32 : Nat) : Int) := by unfold decI; rw [e]; rfl
  have hb : (decI o w).Rs2 = ((w / 1048576 % 32 : Nat) : Int) := by unfold decI; rw [e]; rfl
  have kn := Spread_eq (w := w) hf
  rw [hN] at kn
  rw [hs] at k3
  exact ⟨_, Word_sum hd ha hb k1 k2 k3 kn hS.1, hS.2.trans (fit83 hw e).symm⟩
theorem fit73 {w : Nat} (hw : w < 4294967296) {o : Int} (e : formOf o = 73) : Fits o w ↔ w % 128 = cNq o ∧ w / 4096 % 8 = tN o := by
  unfold Fits
  rw [e]
  omega
theorem wd73 {w : Nat} (hw : w < 4294967296) {o : Int} (ho : 1 ≤ o ∧ o ≤ 45) (e : formOf o = 73) : ∃ v : Nat, ref02_Word (decI o w) = some (v : Int) ∧ (v = w ↔ Fits o w) := by
  obtain ⟨⟨c1, c2, c3⟩, ⟨h1, h2, h3⟩, ⟨k1, k2, k3⟩, hf, z1, z2⟩ := op_parts ho
  have hs : sNq o = 0 := z2 (by rw [e]; decide) (by rw [e]; decide)
  have hS := sum73 (c := cNq o) (t := tN o) (s := sNq o) hw h1 h2 h3
  have hN : sprN (formOf o) w = w / 1048576 % 4096 * 1048576 := by rw [e]; rfl
  have hd : (decI o w).Rd = ((w / 128 % 32 : Nat) : Int) := by unfold decI; rw [e]; rfl
  have ha : (decI o w).Rs1 = ((w / 32768 % 32 : Nat) : Int) := by unfold decI; rw [e]; rfl
  have hb : (decI o w).Rs2 = ((0 : Nat) : Int) := by unfold decI; rw [e]; rfl
  have kn := Spread_eq (w := w) hf
  rw [hN] at kn
  rw [hs] at k3
  exact ⟨_, Word_sum hd ha hb k1 k2 k3 kn hS.1, hS.2.trans (fit73 hw e).symm⟩
theorem Word_dec {w : Nat} (hw : w < 4294967296) {o : Int} (ho : 1 ≤ o ∧ o ≤ 45) : ∃ v : Nat, ref02_Word (decI o w) = some (v : Int) ∧ (v = w ↔ Fits o w) := by
  rcases forms o with e | e | e | e | e | e | e | e
  · exact absurd e (op_parts ho).2.2.2.1
  · exact wd82 hw ho e
  · exact wd85 hw ho e
  · exact wd74 hw ho e
  · exact wd66 hw ho e
  · exact wd83 hw ho e
  · exact wd73 hw ho e
  · exact wd72 hw ho e
def decO (w : Nat) : Option Int := ((List.range 45).findIdx? fun (k : Nat) => decide (Fits ((k : Int) + 1) w)).map fun k => (k : Int) + 1
def decR (w : Nat) : GInst × Int := match decO w with
  | some o => (decI o w, 0)
  | none => (⟨0, 0, 0, 0, 0⟩, 3)
theorem dec_loop {w : Nat} {body : Int → Option (Lp Int (GInst × Int))} {K : Lp Int (GInst × Int) → Option (GInst × Int)} (hs : ∀ o, 1 ≤ o ∧ o ≤ 45 → body o = some (bif decide (Fits o w) then .ret (decI o w, 0) else .go (IntKind.wrap .i64 (o + 1)))) (he : body 46 = some (.brk 46))
    (h1 : K (.brk 46) = some (⟨0, 0, 0, 0, 0⟩, 3)) (h2 : ∀ r, K (.ret r) = some r) : (loopM body NN 1).bind K = some (decR w) := by
  unfold decR decO
  have hw : ∀ k : Nat, k < 45 → IntKind.wrap .i64 ((k : Int) + 1 + 1) = ((k + 1 : Nat) : Int) + 1 := fun k hk => by rw [w64 (by omega)]; omega
  cases hf : (List.range 45).findIdx? fun (k : Nat) => decide (Fits ((k : Int) + 1) w) with
  | none =>
    have hn := List.findIdx?_eq_none_iff.1 hf
    refine run_bind (fun k => (k : Int) + 1) 45 (.brk 46) rfl (by omega) (fun k hk => ?_) (by rw [show (((45 : Nat) : Int) + 1) = 46 from rfl]; exact he) trivial h1
    rw [hs _ (by omega), hn k (List.mem_range.2 hk), cond_false, hw k hk]
  | some i =>
    obtain ⟨hi, hp, hlt⟩ := List.findIdx?_eq_some_iff_getElem.1 hf
    rw [List.length_range] at hi
    rw [List.getElem_range] at hp
    refine run_bind (fun k => (k : Int) + 1) i (.ret (decI ((i : Int) + 1) w, 0)) rfl (by omega) (fun k hk => ?_) ?_ trivial (h2 _)
    · have := hlt k hk
      rw [List.getElem_range] at this
      rw [hs _ (by omega), show decide (Fits ((k : Int) + 1) w) = false by simpa using this, cond_false, hw k (by omega)]
    · rw [hs _ (by omega), hp, cond_true]
theorem Decode_eq {w : Nat} (hw : w < 4294967296) : inst_Decode (w : Int) = some (decR w) := by
  unfold inst_Decode
  rw [show inst_table = some tbl1 from rfl, Option.bind_some]
  unfold lenOk
  rw [if_pos (show tbl1.length = 46 from rfl), Option.bind_some]
  refine dec_loop (fun o ho => ?_) ?_ rfl (fun _ => rfl)
  · obtain ⟨_, _, _, hf, _, _⟩ := op_parts ho
    rw [c1 (dt ho.2), shp_idx ⟨by omega, ho.2⟩, Option.bind_some, fits_eq hw ho, Option.bind_some]
    cases decide (Fits o w) with
    | false => rfl
    | true =>
      have b1 : inst_bits (w : Int) 7 5 = some ((w / 128 % 32 : Nat) : Int) := ibP hw (by decide) (by decide) (by decide) (by decide)
      have b2 : inst_bits (w : Int) 15 5 = some ((w / 32768 % 32 : Nat) : Int) := ibP hw (by decide) (by decide) (by decide) (by decide)
      have b3 : inst_bits (w : Int) 20 5 = some ((w / 1048576 % 32 : Nat) : Int) := ibP hw (by decide) (by decide) (by decide) (by decide)
      have i1 : IntKind.wrap .i64 ((w / 128 % 32 : Nat) : Int) = ((w / 128 % 32 : Nat) : Int) := w64 (by omega)
      have i2 : IntKind.wrap .i64 ((w / 32768 % 32 : Nat) : Int) = ((w / 32768 % 32 : Nat) : Int) := w64 (by omega)
      have i3 : IntKind.wrap .i64 ((w / 1048576 % 32 : Nat) : Int) = ((w / 1048576 % 32 : Nat) : Int) := w64 (by omega)
      rw [Bool.not_true, cond_false, shp_form ⟨by omega, ho.2⟩, told_eq hw, Option.bind_some, needs_eq o hf, Option.bind_some, b1, b2, b3]
      unfold decI
      clear b1 b2 b3
      generalize ((w / 128 % 32 : Nat) : Int) = x at *
      generalize ((w / 32768 % 32 : Nat) : Int) = y at *
      generalize ((w / 1048576 % 32 : Nat) : Int) = z at *
      cases hasD (formOf o) <;> cases has1 (formOf o) <;> cases has2 (formOf o) <;> simp only [jn, cond_true, cond_false, Option.bind_some, i1, i2, i3]
  · rfl
theorem rDecode_eq {w : Nat} (hw : w < 4294967296) : ref02_Decode (w : Int) = some (decR w) := by
  unfold ref02_Decode
  rw [show IntKind.wrap .i64 (w : Int) = (w : Int) from w64 (by omega)]
  refine dec_loop (fun o ho => ?_) ?_ rfl (fun _ => rfl)
  · obtain ⟨_, _, _, hf, _, _⟩ := op_parts ho
    have m1 : ref02_move (w : Int) 7 11 0 = some ((w / 128 % 32 * 1 : Nat) : Int) := mvP hw (.inr ⟨by omega, rfl⟩) (by decide) (by decide) (by decide) (by decide) (by decide)
    have m2 : ref02_move (w : Int) 15 19 0 = some ((w / 32768 % 32 * 1 : Nat) : Int) := mvP hw (.inr ⟨by omega, rfl⟩) (by decide) (by decide) (by decide) (by decide) (by decide)
    have m3 : ref02_move (w : Int) 20 24 0 = some ((w / 1048576 % 32 * 1 : Nat) : Int) := mvP hw (.inr ⟨by omega, rfl⟩) (by decide) (by decide) (by decide) (by decide) (by decide)
    rw [Nat.mul_one] at m1 m2 m3
    obtain ⟨v, hv, hq⟩ := Word_dec hw ho
    have hR : ref02_Right (decI o w) = some true := by
      rw [rRight_eq, dec_right hf]
    have fin : ((ref02_Right (decI o w)).bind fun y9 => bif y9 then ((ref02_Word (decI o w)).bind fun y10 => bif y10 == (w : Int) then (some (Lp.ret (decI o w, (0 : Int)))) else (some (Lp.go (IntKind.wrap .i64 (o + 1))))) else (some (Lp.go (IntKind.wrap .i64 (o + 1)))) : Option (Lp Int (GInst × Int))) = some (bif decide (Fits o w) then .ret (decI o w, 0) else .go (IntKind.wrap .i64 (o + 1))) := by
      rw [hR, Option.bind_some, cond_true, hv, Option.bind_some, beqn]
      by_cases hF : Fits o w
      · rw [dt hF, dt (hq.2 hF)]; rfl
      · rw [df hF, df (fun e => hF (hq.1 e))]; rfl
    rw [← fin, c1 (dt ho.2), rForm_eq, Option.bind_some, Gather_eq hw, Option.bind_some, rhas1, rhas2, rhas3, m1, m2, m3]
    clear m1 m2 m3 fin hv hq
    unfold decI
    generalize ((w / 128 % 32 : Nat) : Int) = x at *
    generalize ((w / 32768 % 32 : Nat) : Int) = y at *
    generalize ((w / 1048576 % 32 : Nat) : Int) = z at *
    cases hasD (formOf o) <;> cases has1 (formOf o) <;> cases has2 (formOf o) <;> simp only [jn, cond_true, cond_false, Option.bind_some]
  · rfl
abbrev Wd (a : Int) : Prop := 0 ≤ a ∧ a < 4294967296
def sgn (a : Int) : Int := if 2147483648 ≤ a then a - 4294967296 else a
theorem sgn_rg {a : Int} (h : Wd a) : -2147483648 ≤ sgn a ∧ sgn a < 2147483648 := by unfold sgn; split <;> omega
theorem wu32 (n : Int) : IntKind.wrap .u32 n = n % 4294967296 := by
  simp only [IntKind.wrap, IntKind.signed, IntKind.bits]
  simp
theorem wi32W {a : Int} (h : Wd a) : IntKind.wrap .i32 a = sgn a := by
  simp only [IntKind.wrap, IntKind.signed, IntKind.bits]
  unfold sgn
  have : a % 4294967296 = a := by omega
  simp [this]
theorem Signed_eq {a : Int} (h : Wd a) : ref01_Signed a = some (sgn a) := by
  unfold ref01_Signed sgn
  rw [w64 (x := a) (by omega), w64 (by omega)]
  by_cases hh : 2147483648 ≤ a <;> simp [hh]
theorem tmodW (n : Int) : Int.tmod n 4294967296 = if 0 ≤ n then n % 4294967296 else -((-n) % 4294967296) := by
  split
  · rename_i h; exact Int.tmod_eq_emod_of_nonneg h
  · rename_i h
    have : n = -(-n) := by omega
    rw [this, Int.neg_tmod, Int.tmod_eq_emod_of_nonneg (by omega)]
    simp
theorem Cut_eq {n : Int} (h : -9223372036854775808 ≤ n ∧ n < 9223372036854775808) : ref01_Cut n = some (n % 4294967296) := by
  unfold ref01_Cut jn
  simp only [tmodW, wu32]
  split
  · rename_i hn
    rw [df (by omega), cond_false]
    congr 1; omega
  · rename_i hn
    by_cases hz : (-n) % 4294967296 = 0
    · rw [df (by omega), cond_false]
      congr 1; omega
    · rw [dt (by omega), cond_true, w64 (by omega)]
      congr 1; omega
theorem Add_eq {a b : Int} (ha : Wd a) (hb : Wd b) : ref01_Add a b = some ((a + b) % 4294967296) := by
  unfold ref01_Add
  rw [w64 (x := a) (by omega), w64 (x := b) (by omega), w64 (by omega), Cut_eq (by omega)]
  rfl
theorem Sub_eq {a b : Int} (ha : Wd a) (hb : Wd b) : ref01_Sub a b = some ((a - b) % 4294967296) := by
  unfold ref01_Sub
  rw [w64 (x := a) (by omega), w64 (x := b) (by omega), w64 (by omega), Cut_eq (by omega)]
  rfl
theorem mul_bd {x y m : Int} (hx : 0 ≤ x ∧ x ≤ m) (hy : 0 ≤ y ∧ y ≤ m) : 0 ≤ x * y ∧ x * y ≤ m * m := ⟨Int.mul_nonneg hx.1 hy.1, Int.mul_le_mul hx.2 hy.2 hy.1 (by omega)⟩
theorem Mul_eq {a b : Int} (ha : Wd a) (hb : Wd b) : ref01_Mul a b = some ((a * b) % 4294967296) := by
  unfold ref01_Mul ref01_half
  simp only [Option.bind_some]
  rw [w64 (x := a) (by omega), w64 (x := b) (by omega), Int.tmod_eq_emod_of_nonneg ha.1, Int.tmod_eq_emod_of_nonneg hb.1, Int.tdiv_eq_ediv_of_nonneg ha.1, Int.tdiv_eq_ediv_of_nonneg hb.1, w64 (x := a / 65536) (by omega), w64 (x := b / 65536) (by omega)]
  obtain ⟨al, hal⟩ : ∃ x, x = a % 65536 := ⟨_, rfl⟩
  obtain ⟨ah, hah⟩ : ∃ x, x = a / 65536 := ⟨_, rfl⟩
  obtain ⟨bl, hbl⟩ : ∃ x, x = b % 65536 := ⟨_, rfl⟩
  obtain ⟨bh, hbh⟩ : ∃ x, x = b / 65536 := ⟨_, rfl⟩
  have hab : a * b = 4294967296 * (ah * bh) + 65536 * (ah * bl + al * bh) + al * bl := by
    have e1 : a = 65536 * ah + al := by omega
    have e2 : b = 65536 * bh + bl := by omega
    rw [e1, e2]
    simp only [Int.add_mul, Int.mul_add]
    have : (65536 * ah) * (65536 * bh) = 4294967296 * (ah * bh) := by rw [Int.mul_assoc, ← Int.mul_assoc ah, Int.mul_comm ah 65536, Int.mul_assoc 65536 ah, ← Int.mul_assoc]; rfl
    have e3 : 65536 * ah * bl = 65536 * (ah * bl) := Int.mul_assoc _ _ _
    have e4 : al * (65536 * bh) = 65536 * (al * bh) := by rw [← Int.mul_assoc, Int.mul_comm al 65536, Int.mul_assoc]
    rw [this, e3, e4]
    omega
  rw [hab, ← hal, ← hah, ← hbl, ← hbh]
  have b1 := mul_bd (x := al) (y := bl) (m := 65535) (by omega) (by omega)
  have b2 := mul_bd (x := ah) (y := bl) (m := 65535) (by omega) (by omega)
  have b3 := mul_bd (x := al) (y := bh) (m := 65535) (by omega) (by omega)
  clear hab hal hah hbl hbh
  generalize al * bl = p at *
  generalize ah * bl = q at *
  generalize al * bh = r at *
  generalize ah * bh = t at *
  rw [w64 (x := p) (by omega), w64 (x := q) (by omega), w64 (x := r) (by omega), Int.tdiv_eq_ediv_of_nonneg b1.1, w64 (x := p / 65536) (by omega), w64 (x := q + p / 65536) (by omega), Int.tmod_eq_emod_of_nonneg (a := q + p / 65536) (by omega), w64 (x := r + (q + p / 65536) % 65536) (by omega), Int.tmod_eq_emod_of_nonneg (a := r + (q + p / 65536) % 65536) (by omega), Int.tmod_eq_emod_of_nonneg b1.1, w64 (x := (r + (q + p / 65536) % 65536) % 65536 * 65536) (by omega), w64 (by omega), wu32]
  congr 1
  omega
theorem abs_eq {x : Int} (h : -2147483648 ≤ x ∧ x < 2147483648) : ref01_abs x = some (if x < 0 then -x else x) := by
  unfold ref01_abs
  rw [w64 (by omega)]
  by_cases hh : x < 0 <;> simp [hh]
theorem tdiv_abs {x y : Int} (hy : y ≠ 0) : Int.tdiv x y = if (x < 0 ∧ 0 < y) ∨ (0 < x ∧ y < 0) then -(Int.tdiv (if x < 0 then -x else x) (if y < 0 then -y else y)) else Int.tdiv (if x < 0 then -x else x) (if y < 0 then -y else y) := by
  by_cases h1 : x < 0 <;> by_cases h2 : y < 0
  · rw [if_neg (by omega), if_pos h1, if_pos h2]; simp
  · rw [if_pos (by omega), if_pos h1, if_neg h2]; simp
  · by_cases h3 : 0 < x
    · rw [if_pos (by omega), if_neg h1, if_pos h2]; simp
    · have : x = 0 := by omega
      subst this
      simp
  · rw [if_neg (by omega), if_neg h1, if_neg h2]
theorem tdiv_bd {x y : Int} (hx : -2147483648 ≤ x ∧ x < 2147483648) (hy : y ≠ 0) : 0 ≤ Int.tdiv (if x < 0 then -x else x) (if y < 0 then -y else y) ∧ Int.tdiv (if x < 0 then -x else x) (if y < 0 then -y else y) ≤ 2147483648 := by
  have hx' : 0 ≤ (if x < 0 then -x else x) ∧ (if x < 0 then -x else x) ≤ 2147483648 := by split <;> omega
  have hy' : 0 < (if y < 0 then -y else y) := by split <;> omega
  generalize (if x < 0 then -x else x) = u at *
  generalize (if y < 0 then -y else y) = v at *
  rw [Int.tdiv_eq_ediv_of_nonneg hx'.1]
  exact ⟨Int.ediv_nonneg hx'.1 (by omega), Int.le_trans (Int.ediv_le_self _ hx'.1) hx'.2⟩
theorem Div_ref {a b : Int} (ha : Wd a) (hb : Wd b) (h0 : b ≠ 0) : ref01_Div a b = some (Int.tdiv (sgn a) (sgn b) % 4294967296) := by
  have hx := sgn_rg ha
  have hy := sgn_rg hb
  have hy0 : sgn b ≠ 0 := by unfold sgn; split <;> omega
  unfold ref01_Div
  rw [Signed_eq ha, Signed_eq hb]
  simp only [Option.bind_some]
  rw [show (sgn b == 0) = false by simpa using hy0, cond_false, abs_eq hx, abs_eq hy]
  simp only [Option.bind_some]
  rw [show nz (if sgn b < 0 then -sgn b else sgn b) = some () by unfold nz; rw [if_neg (by split <;> omega)]]
  simp only [Option.bind_some, jn]
  have hbd := tdiv_bd hx hy0
  rw [tdiv_abs (x := sgn a) hy0]
  generalize Int.tdiv (if sgn a < 0 then -sgn a else sgn a) (if sgn b < 0 then -sgn b else sgn b) = q at *
  rw [w64 (x := q) (by omega), w64 (x := 0 - q) (by omega), Cut_eq (n := q) (by omega), Cut_eq (n := 0 - q) (by omega)]
  simp only [Option.bind_some]
  have e : 0 - q = -q := by omega
  rw [e]
  by_cases h1 : sgn a < 0
  · have h1' : ¬ 0 < sgn a := by omega
    by_cases h2 : 0 < sgn b <;> simp [h1, h1', h2]
  · by_cases h2 : 0 < sgn a
    · by_cases h3 : sgn b < 0 <;> simp [h1, h2, h3]
    · simp [h1, h2]
theorem Rem_ref {a b : Int} (ha : Wd a) (hb : Wd b) (h0 : b ≠ 0) : ref01_Rem a b = some (Int.tmod (sgn a) (sgn b) % 4294967296) := by
  have hx := sgn_rg ha
  have hy := sgn_rg hb
  have hy0 : sgn b ≠ 0 := by unfold sgn; split <;> omega
  unfold ref01_Rem
  rw [Signed_eq ha, Signed_eq hb]
  simp only [Option.bind_some]
  rw [show (sgn b == 0) = false by simpa using hy0, cond_false, abs_eq hx, abs_eq hy]
  simp only [Option.bind_some]
  rw [show nz (if sgn b < 0 then -sgn b else sgn b) = some () by unfold nz; rw [if_neg (by split <;> omega)]]
  simp only [Option.bind_some, jn]
  have hm : Int.tmod (sgn a) (sgn b) = if sgn a < 0 then -(Int.tmod (if sgn a < 0 then -sgn a else sgn a) (if sgn b < 0 then -sgn b else sgn b)) else Int.tmod (if sgn a < 0 then -sgn a else sgn a) (if sgn b < 0 then -sgn b else sgn b) := by
    by_cases h1 : sgn a < 0 <;> by_cases h2 : sgn b < 0 <;> simp [h1, h2]
  have hbd : 0 ≤ Int.tmod (if sgn a < 0 then -sgn a else sgn a) (if sgn b < 0 then -sgn b else sgn b) ∧ Int.tmod (if sgn a < 0 then -sgn a else sgn a) (if sgn b < 0 then -sgn b else sgn b) < 4294967296 := by
    have h1 : 0 ≤ (if sgn a < 0 then -sgn a else sgn a) := by split <;> omega
    have h2 : 0 < (if sgn b < 0 then -sgn b else sgn b) ∧ (if sgn b < 0 then -sgn b else sgn b) ≤ 2147483648 := by split <;> omega
    rw [Int.tmod_eq_emod_of_nonneg h1]
    exact ⟨Int.emod_nonneg _ (by omega), Int.lt_trans (Int.emod_lt_of_pos _ h2.1) (by omega)⟩
  rw [hm]
  generalize Int.tmod (if sgn a < 0 then -sgn a else sgn a) (if sgn b < 0 then -sgn b else sgn b) = q at *
  rw [w64 (x := 0 - q) (by omega), Cut_eq (n := q) (by omega), Cut_eq (n := 0 - q) (by omega)]
  simp only [Option.bind_some]
  have e : 0 - q = -q := by omega
  rw [e]
  by_cases h1 : sgn a < 0 <;> simp [h1]
theorem pw_eq {b : Int} (hb : Wd b) : ref01_power b = some ((2 : Int) ^ (b.toNat % 32)) := by
  unfold ref01_power
  have hm : Int.tmod b 32 = ((b.toNat % 32 : Nat) : Int) := by rw [Int.tmod_eq_emod_of_nonneg hb.1]; omega
  rw [hm, w64 (by omega)]
  generalize hn : b.toNat % 32 = n
  have hn32 : n < 32 := by omega
  have key : ∀ k, k < 32 → (2 : Int) ^ k ≤ 2147483648 ∧ 0 < (2 : Int) ^ k := by decide
  refine run_bind (fun k => ((2 : Int) ^ k, (k : Int))) n (.brk ((2 : Int) ^ n, (n : Int))) rfl (by omega) (fun k hk => ?_) ?_ trivial rfl
  · simp only
    obtain ⟨h1, h2⟩ := key k (by omega)
    rw [dlt hk, cond_true, w64 (by omega), w64 (by omega)]
    rw [show (2 : Int) * 2 ^ k = 2 ^ (k + 1) by rw [Int.pow_succ, Int.mul_comm]]
    rfl
  · simp only
    rw [dge n, cond_false]
theorem bvW {a : Nat} (h : a < 4294967296) : (BitVec.ofInt 32 (a : Int)).toNat = a := by
  rw [BitVec.ofInt_natCast, BitVec.toNat_ofNat]; exact Nat.mod_eq_of_lt h
theorem and31 {b : Int} (hb : Wd b) : bits .and .u32 b 31 = ((b.toNat % 32 : Nat) : Int) := by
  obtain ⟨m, rfl⟩ : ∃ m : Nat, b = m := ⟨b.toNat, by omega⟩
  show IntKind.u32.wrap ((BitVec.ofInt 32 (m : Int) &&& BitVec.ofInt 32 ((31 : Nat) : Int)).toNat : Int) = _
  rw [BitVec.toNat_and, bvW (by omega), bvW (by omega), show (31 : Nat) = 2 ^ 5 - 1 from rfl, Nat.and_two_pow_sub_one_eq_mod, w32u (by omega)]
  simp
theorem pw_bd : ∀ k, k < 32 → (2 : Int) ^ k ≤ 2147483648 ∧ 0 < (2 : Int) ^ k ∧ 4294967296 / (2 : Int) ^ k * 2 ^ k = 4294967296 ∧ 1 ≤ 4294967296 / (2 : Int) ^ k := by decide
theorem Left_ref {a b : Int} (ha : Wd a) (hb : Wd b) : ref01_Left a b = some (a * 2 ^ (b.toNat % 32) % 4294967296) := by
  unfold ref01_Left
  rw [pw_eq hb]
  obtain ⟨h1, h2, h3, h4⟩ := pw_bd (b.toNat % 32) (by omega)
  generalize (2 : Int) ^ (b.toNat % 32) = p at *
  simp only [Option.bind_some]
  have hq : 4294967296 / p ≤ 4294967296 := Int.ediv_le_self _ (by omega)
  rw [show nz p = some () by unfold nz; rw [if_neg (by omega)], Int.tdiv_eq_ediv_of_nonneg (by omega), w64 (x := 4294967296 / p) (by omega), show nz (4294967296 / p) = some () by unfold nz; rw [if_neg (by omega)]]
  simp only [Option.bind_some]
  rw [w64 (x := a) (by omega), Int.tmod_eq_emod_of_nonneg ha.1]
  have hmul : a % (4294967296 / p) * p = a * p % 4294967296 := by
    have := Int.mul_emod_mul_of_pos a (4294967296 / p) h2
    rw [Int.mul_comm p a, Int.mul_comm p (4294967296 / p), h3, Int.mul_comm p] at this
    exact this.symm
  rw [hmul, w64 (by omega), Cut_eq (by omega)]
  simp
theorem fl_eq {x p : Int} (hp : 0 < p) : x / p = if x < 0 then (if Int.tdiv x p * p ≠ x then Int.tdiv x p - 1 else Int.tdiv x p) else Int.tdiv x p := by
  by_cases hx : x < 0
  · rw [if_pos hx]
    have e : x = -(-x) := by omega
    have ht : Int.tdiv x p = -((-x) / p) := by rw [e, Int.neg_tdiv, Int.tdiv_eq_ediv_of_nonneg (by omega)]; simp
    rw [ht]
    have hd := Int.mul_ediv_add_emod (-x) p
    have hr := Int.emod_nonneg (-x) (show p ≠ 0 by omega)
    have hl := Int.emod_lt_of_pos (-x) hp
    generalize (-x) / p = k at *
    generalize (-x) % p = r at *
    have hkp : -k * p = -(p * k) := by rw [Int.neg_mul, Int.mul_comm]
    by_cases h0 : -k * p = x
    · rw [if_neg (by simpa using h0)]
      refine ((Int.ediv_emod_unique hp (r := 0)).2 ⟨?_, by omega, hp⟩).1
      rw [Int.mul_comm]; omega
    · rw [if_pos h0]
      refine ((Int.ediv_emod_unique hp (r := p - r)).2 ⟨?_, by omega, by omega⟩).1
      rw [Int.mul_sub, Int.mul_comm p (-k)]; omega
  · rw [if_neg hx, Int.tdiv_eq_ediv_of_nonneg (by omega)]
theorem RightS_ref {a b : Int} (ha : Wd a) (hb : Wd b) : ref01_RightS a b = some ((sgn a / 2 ^ (b.toNat % 32)) % 4294967296) := by
  unfold ref01_RightS
  rw [pw_eq hb, Signed_eq ha]
  obtain ⟨h1, h2, _, _⟩ := pw_bd (b.toNat % 32) (by omega)
  generalize (2 : Int) ^ (b.toNat % 32) = p at *
  have hx := sgn_rg ha
  simp only [Option.bind_some]
  rw [show nz p = some () by unfold nz; rw [if_neg (by omega)]]
  simp only [Option.bind_some, jn]
  have hq : -2147483648 ≤ Int.tdiv (sgn a) p ∧ Int.tdiv (sgn a) p ≤ 2147483648 := by
    have := tdiv_bd hx (y := p) (by omega)
    rw [tdiv_abs (x := sgn a) (y := p) (by omega)]
    split <;> omega
  have hqp : -2147483648 ≤ Int.tdiv (sgn a) p * p ∧ Int.tdiv (sgn a) p * p ≤ 2147483648 := by
    by_cases hs : sgn a < 0
    · have e : sgn a = -(-sgn a) := by omega
      have ht : Int.tdiv (sgn a) p = -((-sgn a) / p) := by rw [e, Int.neg_tdiv, Int.tdiv_eq_ediv_of_nonneg (by omega)]; simp
      have hd := Int.mul_ediv_add_emod (-sgn a) p
      have hr := Int.emod_nonneg (-sgn a) (show p ≠ 0 by omega)
      have hl := Int.emod_lt_of_pos (-sgn a) h2
      have hkk := Int.mul_nonneg (show 0 ≤ p by omega) (Int.ediv_nonneg (show 0 ≤ -sgn a by omega) (show 0 ≤ p by omega))
      rw [ht, Int.neg_mul, Int.mul_comm]
      omega
    · have hd := Int.mul_ediv_add_emod (sgn a) p
      have hr := Int.emod_nonneg (sgn a) (show p ≠ 0 by omega)
      have hl := Int.emod_lt_of_pos (sgn a) h2
      have hkk := Int.mul_nonneg (show 0 ≤ p by omega) (Int.ediv_nonneg (show 0 ≤ sgn a by omega) (show 0 ≤ p by omega))
      rw [Int.tdiv_eq_ediv_of_nonneg (by omega), Int.mul_comm]
      omega
  rw [fl_eq (x := sgn a) h2]
  rw [w64 (x := Int.tdiv (sgn a) p) (by omega), w64 (x := Int.tdiv (sgn a) p * p) (by omega), w64 (x := Int.tdiv (sgn a) p - 1) (by omega), Cut_eq (n := Int.tdiv (sgn a) p) (by omega), Cut_eq (n := Int.tdiv (sgn a) p - 1) (by omega)]
  simp only [Option.bind_some]
  by_cases hs : sgn a < 0
  · by_cases hz : Int.tdiv (sgn a) p * p = sgn a
    · simp [hs, hz]
    · rw [show (Int.tdiv (sgn a) p * p != sgn a) = true by simpa using hz]
      simp [hs, hz]
  · simp [hs]
theorem wsig {a : Int} (h : Wd a) : IntKind.wrap .i64 (IntKind.wrap .i32 a) = sgn a := by
  have := sgn_rg h
  rw [wi32W h, w64 (by omega)]
theorem wDiv {a b : Int} (ha : Wd a) (hb : Wd b) (h0 : b ≠ 0) : word_Div a b = some (Int.tdiv (sgn a) (sgn b) % 4294967296) := by
  have hx := sgn_rg ha
  have hy0 : sgn b ≠ 0 := by unfold sgn; split <;> omega
  have hq : -2147483648 ≤ Int.tdiv (sgn a) (sgn b) ∧ Int.tdiv (sgn a) (sgn b) ≤ 2147483648 := by
    have := tdiv_bd hx hy0
    rw [tdiv_abs (x := sgn a) hy0]
    split <;> omega
  unfold word_Div word_signed_2 word_Div_1
  rw [show (b == 0) = false by simpa using h0, cond_false, wsig ha, wsig hb, show nz (sgn b) = some () by unfold nz; rw [if_neg hy0]]
  simp only [Option.bind_some]
  rw [w64 (by omega), wu32]
theorem wRem {a b : Int} (ha : Wd a) (hb : Wd b) (h0 : b ≠ 0) : word_Rem a b = some (Int.tmod (sgn a) (sgn b) % 4294967296) := by
  have hy0 : sgn b ≠ 0 := by unfold sgn; split <;> omega
  unfold word_Rem word_signed_3 word_Rem_1
  rw [show (b == 0) = false by simpa using h0, cond_false, wsig ha, wsig hb, show nz (sgn b) = some () by unfold nz; rw [if_neg hy0]]
  simp only [Option.bind_some]
  rw [wu32]
theorem wLeft {a b : Int} (ha : Wd a) (hb : Wd b) : word_Left a b = some (a * 2 ^ (b.toNat % 32) % 4294967296) := by
  unfold word_Left nn
  rw [and31 hb, if_pos (by omega)]
  simp only [Option.bind_some, Int.toNat_natCast]
  rw [show min (b.toNat % 32) (IntKind.bits .u32) = b.toNat % 32 from Nat.min_eq_left (by show _ ≤ 32; omega), wu32]
theorem wRightS {a b : Int} (ha : Wd a) (hb : Wd b) : word_RightS a b = some ((sgn a / 2 ^ (b.toNat % 32)) % 4294967296) := by
  unfold word_RightS nn
  rw [and31 hb, if_pos (by omega)]
  simp only [Option.bind_some, Int.toNat_natCast]
  obtain ⟨h1, h2, _, _⟩ := pw_bd (b.toNat % 32) (by omega)
  rw [show min (b.toNat % 32) (IntKind.bits .i32) = b.toNat % 32 from Nat.min_eq_left (by show _ ≤ 32; omega), wu32, wi32W ha, Int.fdiv_eq_ediv_of_nonneg _ (by omega)]
def b2 (b : Bool) : Int := bif b then 1 else 0
theorem wLess {a b : Int} (ha : Wd a) (hb : Wd b) : word_Less a b = some (b2 (decide (sgn a < sgn b))) := by
  unfold word_Less word_bit
  rw [wi32W ha, wi32W hb]
  by_cases h : sgn a < sgn b <;> simp [h, b2]
theorem wm (x : Int) : Wd (x % 4294967296) := ⟨Int.emod_nonneg _ (by omega), Int.emod_lt_of_pos _ (by omega)⟩
theorem mul_rg {a b : Int} (ha : Wd a) (hb : Wd b) : 0 ≤ a * b ∧ a * b ≤ 18446744065119617025 := mul_bd (m := 4294967295) (by omega) (by omega)
theorem half_eq {a b : Int} (ha : Wd a) (hb : Wd b) : ref01_half a b = some (a * b / 4294967296, a * b % 4294967296) := by
  unfold ref01_half
  have hm := mul_rg ha hb
  rw [w64 (x := a) (by omega), w64 (x := b) (by omega), Int.tmod_eq_emod_of_nonneg ha.1, Int.tmod_eq_emod_of_nonneg hb.1, Int.tdiv_eq_ediv_of_nonneg ha.1, Int.tdiv_eq_ediv_of_nonneg hb.1, w64 (x := a / 65536) (by omega), w64 (x := b / 65536) (by omega)]
  obtain ⟨al, hal⟩ : ∃ x, x = a % 65536 := ⟨_, rfl⟩
  obtain ⟨ah, hah⟩ : ∃ x, x = a / 65536 := ⟨_, rfl⟩
  obtain ⟨bl, hbl⟩ : ∃ x, x = b % 65536 := ⟨_, rfl⟩
  obtain ⟨bh, hbh⟩ : ∃ x, x = b / 65536 := ⟨_, rfl⟩
  have hab : a * b = 4294967296 * (ah * bh) + 65536 * (ah * bl + al * bh) + al * bl := by
    have e1 : a = 65536 * ah + al := by omega
    have e2 : b = 65536 * bh + bl := by omega
    rw [e1, e2]
    simp only [Int.add_mul, Int.mul_add]
    have : (65536 * ah) * (65536 * bh) = 4294967296 * (ah * bh) := by rw [Int.mul_assoc, ← Int.mul_assoc ah, Int.mul_comm ah 65536, Int.mul_assoc 65536 ah, ← Int.mul_assoc]; rfl
    have e3 : 65536 * ah * bl = 65536 * (ah * bl) := Int.mul_assoc _ _ _
    have e4 : al * (65536 * bh) = 65536 * (al * bh) := by rw [← Int.mul_assoc, Int.mul_comm al 65536, Int.mul_assoc]
    rw [this, e3, e4]
    omega
  rw [hab] at hm ⊢
  rw [← hal, ← hah, ← hbl, ← hbh]
  have b1 := mul_bd (x := al) (y := bl) (m := 65535) (by omega) (by omega)
  have b2 := mul_bd (x := ah) (y := bl) (m := 65535) (by omega) (by omega)
  have b3 := mul_bd (x := al) (y := bh) (m := 65535) (by omega) (by omega)
  have b4 := mul_bd (x := ah) (y := bh) (m := 65535) (by omega) (by omega)
  clear hab hal hah hbl hbh
  generalize al * bl = p at *
  generalize ah * bl = q at *
  generalize al * bh = r at *
  generalize ah * bh = t at *
  rw [w64 (x := p) (by omega), w64 (x := q) (by omega), w64 (x := r) (by omega), w64 (x := t) (by omega), Int.tdiv_eq_ediv_of_nonneg b1.1, w64 (x := p / 65536) (by omega), w64 (x := q + p / 65536) (by omega), Int.tmod_eq_emod_of_nonneg (a := q + p / 65536) (by omega), Int.tdiv_eq_ediv_of_nonneg (a := q + p / 65536) (by omega), w64 (x := (q + p / 65536) / 65536) (by omega), w64 (x := t + (q + p / 65536) / 65536) (by omega), w64 (x := r + (q + p / 65536) % 65536) (by omega), Int.tdiv_eq_ediv_of_nonneg (a := r + (q + p / 65536) % 65536) (by omega), w64 (x := (r + (q + p / 65536) % 65536) / 65536) (by omega), Int.tmod_eq_emod_of_nonneg (a := r + (q + p / 65536) % 65536) (by omega), Int.tmod_eq_emod_of_nonneg b1.1, w64 (x := (r + (q + p / 65536) % 65536) % 65536 * 65536) (by omega)]
  obtain ⟨mid, hmid⟩ : ∃ x, x = q + p / 65536 := ⟨_, rfl⟩
  rw [← hmid]
  obtain ⟨more, hmore⟩ : ∃ x, x = r + mid % 65536 := ⟨_, rfl⟩
  rw [← hmore, w64 (x := t + mid / 65536 + more / 65536) (by omega), w64 (x := more % 65536 * 65536 + p % 65536) (by omega), wu32, wu32]
  have e1 : (4294967296 * t + 65536 * (q + r) + p) / 4294967296 = t + mid / 65536 + more / 65536 := by omega
  have e2 : (4294967296 * t + 65536 * (q + r) + p) % 4294967296 = more % 65536 * 65536 + p % 65536 := by omega
  rw [e1, e2]
  have h3 : 0 ≤ t + mid / 65536 + more / 65536 ∧ t + mid / 65536 + more / 65536 < 4294967296 := by omega
  rw [Int.emod_eq_of_lt h3.1 h3.2, Int.emod_eq_of_lt (by omega) (by omega)]
theorem HighU_ref {a b : Int} (ha : Wd a) (hb : Wd b) : ref01_HighU a b = some (a * b / 4294967296) := by
  unfold ref01_HighU
  rw [half_eq ha hb]
  rfl
theorem wu64 (n : Int) : IntKind.wrap .u64 n = n % 18446744073709551616 := by
  simp only [IntKind.wrap, IntKind.signed, IntKind.bits]
  simp
theorem fd32 (n : Int) : Int.fdiv n (2 ^ (min (Int.toNat 32) (IntKind.bits .u64))) = n / 4294967296 := by
  rw [show (2 : Int) ^ (min (Int.toNat 32) (IntKind.bits .u64)) = 4294967296 from rfl, Int.fdiv_eq_ediv_of_nonneg _ (by decide)]
theorem wHighU {a b : Int} (ha : Wd a) (hb : Wd b) : word_HighU a b = some (a * b / 4294967296) := by
  have hm := mul_rg ha hb
  unfold word_HighU
  rw [fd32, wu64, wu64, wu64, wu32, Int.emod_eq_of_lt (a := a) (by omega) (by omega), Int.emod_eq_of_lt (a := b) (by omega) (by omega), Int.emod_eq_of_lt (a := a * b) (by omega) (by omega), Int.emod_eq_of_lt (by omega) (by omega)]
theorem sgn_b {a : Int} (h : Wd a) : (sgn a = a ∧ a < 2147483648) ∨ (sgn a = a - 4294967296 ∧ 2147483648 ≤ a) := by unfold sgn; split <;> omega
theorem HighSU_ref {a b : Int} (ha : Wd a) (hb : Wd b) : ref01_HighSU a b = some (sgn a * b / 4294967296 % 4294967296) := by
  have hm := mul_rg ha hb
  unfold ref01_HighSU
  rw [HighU_ref ha hb, Option.bind_some, Signed_eq ha, Option.bind_some]
  rcases sgn_b ha with ⟨e, h⟩ | ⟨e, h⟩
  · rw [e, df (by omega), cond_false, Int.emod_eq_of_lt (by omega) (by omega)]
  · rw [e, dt (by omega), cond_true, Sub_eq (by omega) hb, Option.bind_some, Int.sub_mul]
    congr 1
    generalize a * b = z at hm
    omega
theorem sg_rg {a b : Int} (ha : Wd a) (hb : Wd b) : -9223372036854775808 ≤ sgn a * b ∧ sgn a * b < 9223372036854775808 := by
  rcases sgn_b ha with ⟨e, h⟩ | ⟨e, h⟩
  · rw [e]
    have : a * b ≤ 2147483647 * 4294967295 := Int.mul_le_mul (by omega) (by omega) hb.1 (by omega)
    have := Int.mul_nonneg ha.1 hb.1
    omega
  · rw [e]
    have e2 : (a - 4294967296) * b = -((4294967296 - a) * b) := by rw [← Int.neg_mul]; congr 1; omega
    rw [e2]
    have : (4294967296 - a) * b ≤ 2147483648 * 4294967295 := Int.mul_le_mul (by omega) (by omega) hb.1 (by omega)
    have := Int.mul_nonneg (a := 4294967296 - a) (by omega) hb.1
    omega
theorem wHighSU {a b : Int} (ha : Wd a) (hb : Wd b) : word_HighSU a b = some (sgn a * b / 4294967296 % 4294967296) := by
  have hr := sg_rg ha hb
  unfold word_HighSU
  rw [wsig ha, w64 (x := b) (by omega), w64 (x := sgn a * b) (by omega), fd32, wu64, wu32]
  congr 1
  generalize sgn a * b = z at hr
  omega
theorem High_ref {a b : Int} (ha : Wd a) (hb : Wd b) : ref01_High a b = some (sgn a * sgn b / 4294967296 % 4294967296) := by
  unfold ref01_High
  rw [HighSU_ref ha hb, Option.bind_some, Signed_eq hb, Option.bind_some]
  have hr := sg_rg ha hb
  rcases sgn_b hb with ⟨e, h⟩ | ⟨e, h⟩
  · rw [e, df (by omega), cond_false]
  · rw [e, dt (by omega), cond_true, Sub_eq (wm _) ha, Option.bind_some, Int.mul_sub]
    congr 1
    generalize sgn a * b = z at hr
    rcases sgn_b ha with ⟨e, h⟩ | ⟨e, h⟩ <;> rw [e] <;> omega
theorem ss_rg {a b : Int} (ha : Wd a) (hb : Wd b) : -9223372036854775808 ≤ sgn a * sgn b ∧ sgn a * sgn b < 9223372036854775808 := by
  have hr := sg_rg ha hb
  rcases sgn_b hb with ⟨e, h⟩ | ⟨e, h⟩
  · rw [e]; exact hr
  · rcases sgn_b ha with ⟨f, k⟩ | ⟨f, k⟩
    · rw [e, f, Int.mul_comm]
      have := sg_rg hb ha
      rw [e] at this
      exact this
    · rw [e, f]
      have e2 : (a - 4294967296) * (b - 4294967296) = (4294967296 - a) * (4294967296 - b) := by rw [← Int.neg_mul_neg]; congr 1 <;> omega
      rw [e2]
      have : (4294967296 - a) * (4294967296 - b) ≤ 2147483648 * 2147483648 := Int.mul_le_mul (by omega) (by omega) (by omega) (by omega)
      have := Int.mul_nonneg (a := 4294967296 - a) (b := 4294967296 - b) (by omega) (by omega)
      omega
theorem wHigh {a b : Int} (ha : Wd a) (hb : Wd b) : word_High a b = some (sgn a * sgn b / 4294967296 % 4294967296) := by
  have hr := ss_rg ha hb
  unfold word_High word_signed word_High_1
  simp only [Option.bind_some]
  rw [wsig ha, wsig hb, w64 (x := sgn a * sgn b) (by omega), fd32, wu64, wu32]
  congr 1
  generalize sgn a * sgn b = z at hr
  omega
def Pr (x y : Option Int) : Prop := ∃ v, x = some v ∧ y = some v ∧ Wd v
theorem Pr.bd {x y : Option Int} (h : Pr x y) : Pr (x.bind fun v => some v) (y.bind fun v => some v) := by
  obtain ⟨v, rfl, rfl, hv⟩ := h
  exact ⟨v, rfl, rfl, hv⟩
theorem wbits (op : BinOp) (x y : Int) (hop : op = .and ∨ op = .or ∨ op = .xor) : Wd (bits op .u32 x y) := by
  have : ∃ n : Int, bits op .u32 x y = IntKind.wrap .u32 n := by rcases hop with rfl | rfl | rfl <;> exact ⟨_, rfl⟩
  obtain ⟨n, hn⟩ := this
  rw [hn, wu32]
  exact wm n
section
variable {a b : Int}
theorem pAdd (ha : Wd a) (hb : Wd b) : Pr (word_Add a b) (ref01_Add a b) := ⟨_, by unfold word_Add; rw [wu32], Add_eq ha hb, wm _⟩
theorem pSub (ha : Wd a) (hb : Wd b) : Pr (word_Sub a b) (ref01_Sub a b) := ⟨_, by unfold word_Sub; rw [wu32], Sub_eq ha hb, wm _⟩
theorem pMul (ha : Wd a) (hb : Wd b) : Pr (word_Mul a b) (ref01_Mul a b) := ⟨_, by unfold word_Mul; rw [wu32], Mul_eq ha hb, wm _⟩
theorem pHigh (ha : Wd a) (hb : Wd b) : Pr (word_High a b) (ref01_High a b) := ⟨_, wHigh ha hb, High_ref ha hb, wm _⟩
theorem pHighSU (ha : Wd a) (hb : Wd b) : Pr (word_HighSU a b) (ref01_HighSU a b) := ⟨_, wHighSU ha hb, HighSU_ref ha hb, wm _⟩
theorem pHighU (ha : Wd a) (hb : Wd b) : Pr (word_HighU a b) (ref01_HighU a b) := ⟨_, wHighU ha hb, HighU_ref ha hb, by have := mul_rg ha hb; generalize a * b = z at this ⊢; omega⟩
theorem pDiv (ha : Wd a) (hb : Wd b) : Pr (word_Div a b) (ref01_Div a b) := by
  by_cases h0 : b = 0
  · subst h0
    refine ⟨4294967295, rfl, ?_, by omega⟩
    unfold ref01_Div; rw [Signed_eq ha, Signed_eq hb]; rfl
  · exact ⟨_, wDiv ha hb h0, Div_ref ha hb h0, wm _⟩
theorem pRem (ha : Wd a) (hb : Wd b) : Pr (word_Rem a b) (ref01_Rem a b) := by
  by_cases h0 : b = 0
  · subst h0
    refine ⟨a, rfl, ?_, ha⟩
    unfold ref01_Rem; rw [Signed_eq ha, Signed_eq hb]; rfl
  · exact ⟨_, wRem ha hb h0, Rem_ref ha hb h0, wm _⟩
theorem nz_ok {z : Int} (h : z ≠ 0) : nz z = some () := by unfold nz; rw [if_neg h]
theorem pDivU (ha : Wd a) (hb : Wd b) : Pr (word_DivU a b) (ref01_DivU a b) := by
  by_cases h0 : b = 0
  · subst h0
    exact ⟨4294967295, rfl, rfl, by omega⟩
  · have hd : 0 ≤ a / b ∧ a / b ≤ a := ⟨Int.ediv_nonneg ha.1 hb.1, Int.ediv_le_self _ ha.1⟩
    refine ⟨a / b, ?_, ?_, by omega⟩
    · unfold word_DivU
      rw [c0 (by simpa using h0), nz_ok h0, Option.bind_some, Int.tdiv_eq_ediv_of_nonneg ha.1, wu32, Int.emod_eq_of_lt hd.1 (by omega)]
    · unfold ref01_DivU
      rw [c0 (by simpa using h0), w64 (x := b) (by omega), w64 (x := a) (by omega), nz_ok h0, Option.bind_some, Int.tdiv_eq_ediv_of_nonneg ha.1, w64 (by omega), wu32, Int.emod_eq_of_lt hd.1 (by omega)]
theorem pRemU (ha : Wd a) (hb : Wd b) : Pr (word_RemU a b) (ref01_RemU a b) := by
  by_cases h0 : b = 0
  · subst h0
    exact ⟨a, rfl, rfl, ha⟩
  · have hd : 0 ≤ a % b ∧ a % b < b := ⟨Int.emod_nonneg _ h0, Int.emod_lt_of_pos _ (by omega)⟩
    refine ⟨a % b, ?_, ?_, by omega⟩
    · unfold word_RemU
      rw [c0 (by simpa using h0), nz_ok h0, Option.bind_some, Int.tmod_eq_emod_of_nonneg ha.1]
    · unfold ref01_RemU
      rw [c0 (by simpa using h0), w64 (x := b) (by omega), w64 (x := a) (by omega), nz_ok h0, Option.bind_some, Int.tmod_eq_emod_of_nonneg ha.1, wu32, Int.emod_eq_of_lt hd.1 (by omega)]
theorem pLeft (ha : Wd a) (hb : Wd b) : Pr (word_Left a b) (ref01_Left a b) := ⟨_, wLeft ha hb, Left_ref ha hb, wm _⟩
theorem pRightS (ha : Wd a) (hb : Wd b) : Pr (word_RightS a b) (ref01_RightS a b) := ⟨_, wRightS ha hb, RightS_ref ha hb, wm _⟩
theorem pRight (ha : Wd a) (hb : Wd b) : Pr (word_Right a b) (ref01_Right a b) := by
  obtain ⟨h1, h2, _⟩ := pw_bd (b.toNat % 32) (by omega)
  have hd : 0 ≤ a / 2 ^ (b.toNat % 32) ∧ a / 2 ^ (b.toNat % 32) ≤ a := ⟨Int.ediv_nonneg ha.1 (by omega), Int.ediv_le_self _ ha.1⟩
  refine ⟨a / 2 ^ (b.toNat % 32), ?_, ?_, by omega⟩
  · unfold word_Right
    rw [and31 hb]
    have hn : nn ((b.toNat % 32 : Nat) : Int) = some () := by unfold nn; rw [if_pos (by omega)]
    rw [hn, Option.bind_some, show min (Int.toNat ((b.toNat % 32 : Nat) : Int)) (IntKind.bits .u32) = b.toNat % 32 by simp only [IntKind.bits]; omega, Int.fdiv_eq_ediv_of_nonneg _ (by omega)]
  · unfold ref01_Right
    rw [pw_eq hb, Option.bind_some, nz_ok (by omega), Option.bind_some, w64 (x := a) (by omega), Int.tdiv_eq_ediv_of_nonneg ha.1, w64 (by omega), wu32, Int.emod_eq_of_lt hd.1 (by omega)]
theorem pLess (ha : Wd a) (hb : Wd b) : Pr (word_Less a b) (ref01_Less a b) := by
  refine ⟨_, wLess ha hb, ?_, ?_⟩
  · unfold ref01_Less
    rw [Signed_eq ha, Option.bind_some, Signed_eq hb, Option.bind_some]
    cases decide (sgn a < sgn b) <;> rfl
  · cases decide (sgn a < sgn b) <;> decide
theorem pLessU (ha : Wd a) (hb : Wd b) : Pr (word_LessU a b) (ref01_LessU a b) := by
  refine ⟨b2 (decide (a < b)), ?_, ?_, ?_⟩
  · unfold word_LessU word_bit
    cases decide (a < b) <;> rfl
  · unfold ref01_LessU
    cases decide (a < b) <;> rfl
  · cases decide (a < b) <;> decide
theorem pXor : Pr (some (bits .xor .u32 a b)) (some (bits .xor .u32 a b)) := ⟨_, rfl, rfl, wbits _ _ _ (.inr (.inr rfl))⟩
theorem pOr : Pr (some (bits .or .u32 a b)) (some (bits .or .u32 a b)) := ⟨_, rfl, rfl, wbits _ _ _ (.inr (.inl rfl))⟩
theorem pAnd : Pr (some (bits .and .u32 a b)) (some (bits .and .u32 a b)) := ⟨_, rfl, rfl, wbits _ _ _ (.inl rfl)⟩
theorem Pr.of {x y x' y' : Option Int} (h : Pr x y) (e : x' = x) (f : y' = y) : Pr x' y' := by subst e f; exact h
theorem reck {o : Int} (ho : 19 ≤ o ∧ o ≤ 45) (ha : Wd a) (hb : Wd b) : Pr (device_reckoned o a b) (ref03_Reckon o a b) := by
  have : o = 19 ∨ o = 20 ∨ o = 21 ∨ o = 22 ∨ o = 23 ∨ o = 24 ∨ o = 25 ∨ o = 26 ∨ o = 27 ∨ o = 28 ∨ o = 29 ∨ o = 30 ∨ o = 31 ∨ o = 32 ∨ o = 33 ∨ o = 34 ∨ o = 35 ∨ o = 36 ∨ o = 37 ∨ o = 38 ∨ o = 39 ∨ o = 40 ∨ o = 41 ∨ o = 42 ∨ o = 43 ∨ o = 44 ∨ o = 45 := by omega
  rcases this with rfl | rfl | rfl | rfl | rfl | rfl | rfl | rfl | rfl | rfl | rfl | rfl | rfl | rfl | rfl | rfl | rfl | rfl | rfl | rfl | rfl | rfl | rfl | rfl | rfl | rfl | rfl
  · exact (pAdd ha hb).bd.of (by kernel_rfl) (by kernel_rfl)
  · exact (pLess ha hb).bd.of (by kernel_rfl) (by kernel_rfl)
  · exact (pLessU ha hb).bd.of (by kernel_rfl) (by kernel_rfl)
  · exact (pXor (a := a) (b := b)).of (by kernel_rfl) (by kernel_rfl)
  · exact (pOr (a := a) (b := b)).of (by kernel_rfl) (by kernel_rfl)
  · exact (pAnd (a := a) (b := b)).of (by kernel_rfl) (by kernel_rfl)
  · exact (pLeft ha hb).bd.of (by kernel_rfl) (by kernel_rfl)
  · exact (pRight ha hb).bd.of (by kernel_rfl) (by kernel_rfl)
  · exact (pRightS ha hb).bd.of (by kernel_rfl) (by kernel_rfl)
  · exact (pAdd ha hb).bd.of (by kernel_rfl) (by kernel_rfl)
  · exact (pSub ha hb).bd.of (by kernel_rfl) (by kernel_rfl)
  · exact (pLeft ha hb).bd.of (by kernel_rfl) (by kernel_rfl)
  · exact (pLess ha hb).bd.of (by kernel_rfl) (by kernel_rfl)
  · exact (pLessU ha hb).bd.of (by kernel_rfl) (by kernel_rfl)
  · exact (pXor (a := a) (b := b)).of (by kernel_rfl) (by kernel_rfl)
  · exact (pRight ha hb).bd.of (by kernel_rfl) (by kernel_rfl)
  · exact (pRightS ha hb).bd.of (by kernel_rfl) (by kernel_rfl)
  · exact (pOr (a := a) (b := b)).of (by kernel_rfl) (by kernel_rfl)
  · exact (pAnd (a := a) (b := b)).of (by kernel_rfl) (by kernel_rfl)
  · exact (pMul ha hb).bd.bd.of (by kernel_rfl) (by kernel_rfl)
  · exact (pHigh ha hb).bd.bd.of (by kernel_rfl) (by kernel_rfl)
  · exact (pHighSU ha hb).bd.bd.of (by kernel_rfl) (by kernel_rfl)
  · exact (pHighU ha hb).bd.bd.of (by kernel_rfl) (by kernel_rfl)
  · exact (pDiv ha hb).bd.bd.of (by kernel_rfl) (by kernel_rfl)
  · exact (pDivU ha hb).bd.bd.of (by kernel_rfl) (by kernel_rfl)
  · exact (pRem ha hb).bd.bd.of (by kernel_rfl) (by kernel_rfl)
  · exact (pRemU ha hb).bd.bd.of (by kernel_rfl) (by kernel_rfl)
theorem taken {o : Int} (ho : 5 ≤ o ∧ o ≤ 10) (ha : Wd a) (hb : Wd b) : ∃ t, device_branches o a b = some t ∧ ref03_taken o a b = some t := by
  unfold ref03_taken
  rw [Signed_eq ha, Option.bind_some, Signed_eq hb, Option.bind_some]
  have e1 := wLess ha hb
  have e2 : word_LessU a b = some (b2 (decide (a < b))) := by unfold word_LessU word_bit; cases decide (a < b) <;> rfl
  have h1 : decide (sgn b ≤ sgn a) = !decide (sgn a < sgn b) := by by_cases h : sgn a < sgn b <;> simp [h] <;> omega
  have h2 : decide (b ≤ a) = !decide (a < b) := by by_cases h : a < b <;> simp [h] <;> omega
  have : o = 5 ∨ o = 6 ∨ o = 7 ∨ o = 8 ∨ o = 9 ∨ o = 10 := by omega
  unfold device_branches
  rw [e1, e2, h1, h2]
  rcases this with rfl | rfl | rfl | rfl | rfl | rfl
  · exact ⟨_, rfl, rfl⟩
  · exact ⟨_, rfl, rfl⟩
  · cases decide (sgn a < sgn b) <;> exact ⟨_, rfl, rfl⟩
  · cases decide (sgn a < sgn b) <;> exact ⟨_, rfl, rfl⟩
  · cases decide (a < b) <;> exact ⟨_, rfl, rfl⟩
  · cases decide (a < b) <;> exact ⟨_, rfl, rfl⟩
end
theorem decO_some {w : Nat} {o : Int} (h : decO w = some o) : (1 ≤ o ∧ o ≤ 45) ∧ Fits o w := by
  unfold decO at h
  cases hf : (List.range 45).findIdx? fun (k : Nat) => decide (Fits ((k : Int) + 1) w) with
  | none => rw [hf] at h; cases h
  | some k =>
    rw [hf] at h
    obtain rfl : (k : Int) + 1 = o := by simpa using h
    obtain ⟨hk, hp, _⟩ := List.findIdx?_eq_some_iff_getElem.1 hf
    rw [List.length_range] at hk
    rw [List.getElem_range] at hp
    exact ⟨⟨by omega, by omega⟩, of_decide_eq_true hp⟩
theorem immF_rg (f : Int) (w : Nat) : -2147483648 ≤ immF f w ∧ immF f w < 2147483648 := by
  unfold immF
  repeat' split
  all_goals omega
structure IOk (i : GInst) : Prop where
  op : 1 ≤ i.Op ∧ i.Op ≤ 45
  rd : 0 ≤ i.Rd ∧ i.Rd < 32
  r1 : 0 ≤ i.Rs1 ∧ i.Rs1 < 32
  r2 : 0 ≤ i.Rs2 ∧ i.Rs2 < 32
  im : -2147483648 ≤ i.Imm ∧ i.Imm < 2147483648
theorem decR_ok {w : Nat} (h : (decR w).2 = 0) : IOk (decR w).1 := by
  unfold decR at h ⊢
  cases ho : decO w with
  | none => rw [ho] at h; cases h
  | some o =>
    obtain ⟨h1, _⟩ := decO_some ho
    have rg : ∀ (b : Bool) (n : Nat), n < 32 → 0 ≤ (bif b then (n : Int) else 0) ∧ (bif b then (n : Int) else 0) < 32 := by
      intro b n hn
      cases b <;> simp only [cond_true, cond_false] <;> omega
    exact ⟨h1, rg _ _ (Nat.mod_lt _ (by decide)), rg _ _ (Nat.mod_lt _ (by decide)), rg _ _ (Nat.mod_lt _ (by decide)), immF_rg _ _⟩
theorem decR_err (w : Nat) : (decR w).2 = 0 ∨ (decR w).2 = 3 := by
  unfold decR
  cases decO w with
  | none => exact .inr rfl
  | some o => exact .inl rfl
def dm (r : ref03Machine) (t : List DeviceMet) : DeviceMachine := ⟨⟨r.Regs, r.Pc, r.Seq, r.Index⟩, r.Code, t, r.Data, r.Inputs, r.Log, r.Steps, r.State, r.Exit⟩
structure RW (r : ref03Machine) : Prop where
  rl : r.Regs.length = 32
  rw : ∀ x ∈ r.Regs, Wd x
  r0 : r.Regs[0]? = some 0
  pc : Wd r.Pc
  sq : Wd r.Seq
  ix : Wd r.Index
  cw : ∀ x ∈ r.Code, Wd x
  cl : r.Code.length ≤ 32768
  dw : ∀ x ∈ r.Data, 0 ≤ x ∧ x < 256
  dl : 4 ≤ r.Data.length ∧ r.Data.length ≤ 65536
  iw : ∀ x ∈ r.Inputs, Wd x
  il : r.Inputs.length < 4294967296
  ll : (r.Log.length : Int) ≤ r.Steps
  st : 0 ≤ r.Steps
theorem lenOk_ok {α : Type} {l : List α} {n : Nat} (h : l.length = n) : lenOk l n = some () := by unfold lenOk; rw [if_pos h]
theorem nn_ok {z : Int} (h : 0 ≤ z) : nn z = some () := by unfold nn; rw [if_pos h]
def bv (f : Nat → Int) : Nat → Int
  | 0 => 0
  | k + 1 => bv f k + f k * 256 ^ k
theorem bv_rg {f : Nat → Int} {n : Nat} (hf : ∀ k, k < n → 0 ≤ f k ∧ f k < 256) : ∀ k, k ≤ n → 0 ≤ bv f k ∧ bv f k < 256 ^ k
  | 0, _ => by simp [bv]
  | k + 1, h => by
    have h1 := bv_rg hf k (by omega)
    have h2 := hf k (by omega)
    have h3 : (0 : Int) < 256 ^ k := Int.pow_pos (by decide)
    have h4 : f k * 256 ^ k ≤ 255 * 256 ^ k := Int.mul_le_mul_of_nonneg_right (by omega) (by omega)
    have h5 := Int.mul_nonneg h2.1 (Int.le_of_lt h3)
    rw [Int.pow_succ]
    show 0 ≤ bv f k + f k * 256 ^ k ∧ bv f k + f k * 256 ^ k < 256 ^ k * 256
    omega
theorem orB {k : Nat} (hk : k < 4) {x y : Int} (hx : 0 ≤ x ∧ x < 256 ^ k) (hy : 0 ≤ y ∧ y < 256) : bits .or .u32 x (IntKind.wrap .u32 ((IntKind.wrap .u32 y) * 2 ^ (min (Int.toNat (IntKind.wrap .i64 (8 * (k : Int)))) (IntKind.bits .u32)))) = x + y * 256 ^ k := by
  obtain ⟨a, rfl⟩ : ∃ a : Nat, x = a := ⟨x.toNat, by omega⟩
  obtain ⟨b, rfl⟩ : ∃ b : Nat, y = b := ⟨y.toNat, by omega⟩
  have hb : b < 256 := by omega
  have he : min (Int.toNat (IntKind.wrap .i64 (8 * (k : Int)))) (IntKind.bits .u32) = 8 * k := by
    rw [w64 (by omega)]
    simp only [IntKind.bits]
    omega
  have hp : (2 : Nat) ^ (8 * k) = 256 ^ k := by rw [Nat.pow_mul]
  have hpi : ((2 : Int) ^ (8 * k)) = ((256 ^ k : Nat) : Int) := by rw [← hp]; simp
  have hq : 256 ^ k ≤ 16777216 := by
    have : k = 0 ∨ k = 1 ∨ k = 2 ∨ k = 3 := by omega
    rcases this with rfl | rfl | rfl | rfl <;> decide
  have ha : a < 256 ^ k := by
    have := hx.2
    rw [show ((256 : Int) ^ k) = ((256 ^ k : Nat) : Int) by simp] at this
    omega
  have hm : b * 256 ^ k ≤ 255 * 256 ^ k := Nat.mul_le_mul_right _ (by omega)
  have hc : ((b : Int) * ((256 ^ k : Nat) : Int)) = ((b * 256 ^ k : Nat) : Int) := by simp
  rw [he, wu32 (b : Int), Int.emod_eq_of_lt (a := (b : Int)) (by omega) (by omega), hpi, hc, wu32, Int.emod_eq_of_lt (by omega) (by omega), or32n (by omega) (by omega), show ((256 : Int) ^ k) = ((256 ^ k : Nat) : Int) by simp, hc]
  have := Nat.two_pow_add_eq_or_of_lt (i := 8 * k) (b := a) (by rw [hp]; exact ha) b
  rw [hp, Nat.mul_comm] at this
  rw [Nat.or_comm, ← this]
  omega
def rv (f : Nat → Int) (n : Nat) : Nat → Int
  | 0 => 0
  | j + 1 => 256 * rv f n j + f (n - 1 - j)
theorem rv_bv (f : Nat → Int) {n : Nat} (hn : n = 1 ∨ n = 2 ∨ n = 4) : rv f n n = bv f n := by
  rcases hn with rfl | rfl | rfl <;> simp [rv, bv] <;> omega
theorem rv_rg {f : Nat → Int} {n : Nat} (hf : ∀ k, k < n → 0 ≤ f k ∧ f k < 256) : ∀ j, j ≤ n → 0 ≤ rv f n j ∧ rv f n j < 256 ^ j
  | 0, _ => by simp [rv]
  | j + 1, h => by
    have h1 := rv_rg hf j (by omega)
    have h2 := hf (n - 1 - j) (by omega)
    rw [Int.pow_succ]
    show 0 ≤ 256 * rv f n j + f (n - 1 - j) ∧ 256 * rv f n j + f (n - 1 - j) < 256 ^ j * 256
    omega
def szO (o : Int) : Int := if o = 11 ∨ o = 14 ∨ o = 16 then 1 else if o = 12 ∨ o = 15 ∨ o = 17 then 2 else 4
theorem size_eq {o : Int} (ho : 11 ≤ o ∧ o ≤ 18) : device_size o = some (szO o) ∧ ref03_Size o = some (szO o) := by
  have : o = 11 ∨ o = 12 ∨ o = 13 ∨ o = 14 ∨ o = 15 ∨ o = 16 ∨ o = 17 ∨ o = 18 := by omega
  rcases this with rfl | rfl | rfl | rfl | rfl | rfl | rfl | rfl <;> exact ⟨rfl, rfl⟩
theorem szO_or (o : Int) : ∃ n : Nat, szO o = (n : Int) ∧ (n = 1 ∨ n = 2 ∨ n = 4) := by
  unfold szO
  split
  · exact ⟨1, rfl, .inl rfl⟩
  · split
    · exact ⟨2, rfl, .inr (.inl rfl)⟩
    · exact ⟨4, rfl, .inr (.inr rfl)⟩
section
variable {r : ref03Machine} {t : List DeviceMet}
def inD (r : ref03Machine) (at_ : Int) (n : Nat) : Bool := decide (at_ % n = 0) && decide (268435456 ≤ at_) && decide (at_ + n ≤ 268435456 + r.Data.length)
theorem in_eq (h : RW r) {a : Int} (ha : Wd a) {n : Nat} (hn : n = 1 ∨ n = 2 ∨ n = 4) : ref03_Machine_in r a (n : Int) = some (inD r a n) := by
  have hd := h.dl
  unfold ref03_Machine_in inD
  rw [nz_ok (by omega), Option.bind_some, w64 (by omega), w64 (by omega), Int.tmod_eq_emod_of_nonneg ha.1]
  rfl
theorem place_eq (h : RW r) {a : Int} (ha : Wd a) {n : Nat} (hn : n = 1 ∨ n = 2 ∨ n = 4) : device_Machine_place (dm r t) a (n : Int) = some (if inD r a n then (a - 268435456, true) else (0, false)) := by
  have hd := h.dl
  unfold device_Machine_place
  by_cases h1 : a < 268435456
  · rw [c1 (dt h1), if_neg (by simp [inD]; omega)]
  rw [c0 (df h1)]
  have en : IntKind.wrap .u32 (n : Int) = (n : Int) := by rw [wu32, Int.emod_eq_of_lt (by omega) (by omega)]
  rw [en, nz_ok (by omega), Option.bind_some, Int.tmod_eq_emod_of_nonneg ha.1]
  by_cases h2 : a % (n : Int) = 0
  · rw [c0 (by simpa using h2), lenOk_ok (show (dm r t).volatile.regs.length = 32 from h.rl), Option.bind_some]
    show (bif decide (IntKind.wrap .u32 (IntKind.wrap .i64 ((r.Data.length : Int) - (n : Int))) < IntKind.wrap .u32 (a - 268435456)) then some ((0 : Int), false) else some (IntKind.wrap .i64 (IntKind.wrap .u32 (a - 268435456)), true)) = _
    rw [w64 (x := (r.Data.length : Int) - (n : Int)) (by omega), wu32, wu32, Int.emod_eq_of_lt (a := (r.Data.length : Int) - (n : Int)) (by omega) (by omega), Int.emod_eq_of_lt (a := a - 268435456) (by omega) (by omega), w64 (by omega)]
    by_cases h3 : (r.Data.length : Int) - (n : Int) < a - 268435456
    · rw [c1 (dt h3), if_neg (by simp [inD]; omega)]
    · rw [c0 (df h3), if_pos (by simp [inD, h2]; omega)]
  · rw [c1 (by simpa using h2), if_neg (by simp [inD, h2])]
theorem inD_rg {a : Int} {n : Nat} (h : inD r a n = true) : 0 ≤ a - 268435456 ∧ (a - 268435456).toNat + n ≤ r.Data.length := by
  simp only [inD, Bool.and_eq_true, decide_eq_true_eq] at h
  omega
def bf (r : ref03Machine) (F k : Nat) : Int := r.Data.getD (F + k) 0
theorem bf_rg (h : RW r) (F k : Nat) : 0 ≤ bf r F k ∧ bf r F k < 256 := by
  unfold bf
  rw [List.getD_eq_getElem?_getD]
  cases hg : r.Data[F + k]? with
  | none => exact ⟨by decide, by decide⟩
  | some x => exact h.dw x (List.mem_of_getElem? hg)
theorem bf_idx {F k : Nat} (hk : F + k < r.Data.length) {z : Int} (hz : z = ((F + k : Nat) : Int)) : idx r.Data z = some (bf r F k) := by
  subst hz
  rw [idx_get hk]
  unfold bf
  rw [List.getD_eq_getElem?_getD, List.getElem?_eq_getElem hk]
  rfl
def ext (o x : Int) : Int := if o = 11 then (if 128 ≤ x then x + 4294967040 else x) else if o = 12 then (if 32768 ≤ x then x + 4294901760 else x) else x
theorem sign8 {x : Int} (h : 0 ≤ x ∧ x < 256) : word_Sign x (IntKind.wrap .i64 (8 * ((1 : Nat) : Int))) = some (if 128 ≤ x then x + 4294967040 else x) := by
  have e : word_Sign x (IntKind.wrap .i64 (8 * ((1 : Nat) : Int))) = some (IntKind.wrap .u32 (Int.fdiv (IntKind.wrap .i32 (IntKind.wrap .u32 (x * 16777216))) 16777216)) := by kernel_rfl
  rw [e, wu32 (x * 16777216), Int.emod_eq_of_lt (by omega) (by omega), wi32W (by omega), Int.fdiv_eq_ediv_of_nonneg _ (by decide), wu32]
  congr 1
  unfold sgn
  split <;> split <;> omega
theorem sign16 {x : Int} (h : 0 ≤ x ∧ x < 65536) : word_Sign x (IntKind.wrap .i64 (8 * ((2 : Nat) : Int))) = some (if 32768 ≤ x then x + 4294901760 else x) := by
  have e : word_Sign x (IntKind.wrap .i64 (8 * ((2 : Nat) : Int))) = some (IntKind.wrap .u32 (Int.fdiv (IntKind.wrap .i32 (IntKind.wrap .u32 (x * 65536))) 65536)) := by kernel_rfl
  rw [e, wu32 (x * 65536), Int.emod_eq_of_lt (by omega) (by omega), wi32W (by omega), Int.fdiv_eq_ediv_of_nonneg _ (by decide), wu32]
  congr 1
  unfold sgn
  split <;> split <;> omega
theorem load_dev (h : RW r) {o a : Int} (ho : 11 ≤ o ∧ o ≤ 15) (ha : Wd a) (hio : ¬ (o = 13 ∧ a = 536870924)) {n : Nat} (hn : n = 1 ∨ n = 2 ∨ n = 4) (hs : szO o = (n : Int)) (hi : inD r a n = true) :
    device_Machine_load (dm r t) o a = some (ext o (bv (bf r (a - 268435456).toNat) n), true) := by
  obtain ⟨h0, hF⟩ := inD_rg hi
  have hd := h.dl
  obtain ⟨F, hFe⟩ : ∃ F : Nat, F = (a - 268435456).toNat := ⟨_, rfl⟩
  rw [← hFe] at hF ⊢
  have hrg := fun k => bf_rg h F k
  unfold device_Machine_load
  dsimp only [jn]
  rw [c0 (by simpa using hio), (size_eq (by omega)).1, Option.bind_some, hs, place_eq h ha hn, Option.bind_some, if_pos hi]
  dsimp only
  rw [c0 (by rfl)]
  refine run_bind (fun k => (bv (bf r F) k, (k : Int))) n (.brk (bv (bf r F) n, (n : Int))) rfl (by omega) (fun k hk => ?_) ?_ trivial ?_
  · dsimp only
    rw [c1 (dlt hk), lenOk_ok (show (dm r t).volatile.regs.length = 32 from h.rl), Option.bind_some, show idx (dm r t).data (IntKind.wrap .i64 ((a - 268435456) + (k : Int))) = some (bf r F k) from bf_idx (by omega) (by rw [w64 (by omega)]; omega), Option.bind_some, nn_ok (by rw [w64 (by omega)]; omega), Option.bind_some, orB (by omega) (bv_rg (fun j _ => hrg j) k (Nat.le_refl k)) (hrg k), w64 (by omega)]
    rfl
  · dsimp only
    rw [c0 (dge _)]
  · dsimp only [Lp.thn]
    have hb := bv_rg (n := n) (fun j _ => hrg j) n (Nat.le_refl n)
    unfold ext
    by_cases h11 : o = 11
    · subst h11
      obtain rfl : n = 1 := by have : szO 11 = 1 := rfl; omega
      rw [c1 (by rfl), sign8 (by simpa using hb), Option.bind_some, if_pos rfl]
    · by_cases h12 : o = 12
      · subst h12
        obtain rfl : n = 2 := by have : szO 12 = 2 := rfl; omega
        rw [c1 (by rfl), sign16 (by simpa using hb), Option.bind_some, if_neg (show ¬ (12 : Int) = 11 by decide), if_pos rfl]
      · rw [c0 (by simp [h11, h12]), if_neg h11, if_neg h12]
theorem load_ref (h : RW r) {o a : Int} (ho : 11 ≤ o ∧ o ≤ 15) (ha : Wd a) (hio : ¬ (o = 13 ∧ a = 536870924)) {n : Nat} (hn : n = 1 ∨ n = 2 ∨ n = 4) (hs : szO o = (n : Int)) (hi : inD r a n = true) :
    ref03_Machine_load r o a = some (ext o (bv (bf r (a - 268435456).toNat) n), true) := by
  obtain ⟨h0, hF⟩ := inD_rg hi
  have hd := h.dl
  obtain ⟨F, hFe⟩ : ∃ F : Nat, F = (a - 268435456).toNat := ⟨_, rfl⟩
  rw [← hFe] at hF ⊢
  have hrg := fun k => bf_rg h F k
  unfold ref03_Machine_load
  dsimp only [jn]
  rw [(size_eq (by omega)).2, Option.bind_some, hs, c0 (by simpa using hio), in_eq h ha hn, Option.bind_some, hi, c0 (by rfl)]
  refine run_bind (fun k => (rv (bf r F) n k, (n : Int) - 1 - (k : Int))) n (.brk (rv (bf r F) n n, -1)) (by rw [w64 (by omega)]; simp [rv]) (by omega) (fun k hk => ?_) ?_ trivial ?_
  · have hv := rv_rg (n := n) (fun j _ => hrg j) k (by omega)
    have h256 : (256 : Int) ^ k ≤ 16777216 := by
      have : k = 0 ∨ k = 1 ∨ k = 2 ∨ k = 3 := by omega
      rcases this with rfl | rfl | rfl | rfl <;> decide
    have hb := hrg (n - 1 - k)
    dsimp only
    rw [c1 (dt (by omega)), w64 (x := a - 268435456) (by omega), bf_idx (F := F) (k := n - 1 - k) (by omega) (by rw [w64 (by omega)]; omega), Option.bind_some, w64 (x := 256 * rv (bf r F) n k) (by omega), w64 (x := bf r F (n - 1 - k)) (by omega), w64 (by omega), w64 (by omega)]
    congr 3
    omega
  · dsimp only
    rw [show ((n : Int) - 1 - (n : Int)) = -1 by omega, c0 (by rfl)]
  · dsimp only [Lp.thn]
    have hb := bv_rg (n := n) (fun j _ => hrg j) n (Nat.le_refl n)
    rw [rv_bv _ hn]
    unfold ext
    by_cases h11 : o = 11
    · subst h11
      obtain rfl : n = 1 := by have : szO 11 = 1 := rfl; omega
      have hb : 0 ≤ bv (bf r F) 1 ∧ bv (bf r F) 1 < 256 := by simpa using hb
      rw [if_pos rfl]
      by_cases hx : 128 ≤ bv (bf r F) 1
      · rw [c1 (by simp [hx]), c0 (by simp), w64 (by omega), Cut_eq (by omega), Option.bind_some, if_pos hx]
        congr 2; omega
      · rw [c0 (by simp [hx]), c0 (by simp), Cut_eq (by omega), Option.bind_some, if_neg hx]
        congr 2; omega
    · by_cases h12 : o = 12
      · subst h12
        obtain rfl : n = 2 := by have : szO 12 = 2 := rfl; omega
        have hb : 0 ≤ bv (bf r F) 2 ∧ bv (bf r F) 2 < 65536 := by simpa using hb
        rw [if_neg (show ¬ (12 : Int) = 11 by decide), if_pos rfl, c0 (by rfl)]
        by_cases hx : 32768 ≤ bv (bf r F) 2
        · rw [c1 (by simp [hx]), w64 (by omega), Cut_eq (by omega), Option.bind_some, if_pos hx]
          congr 2; omega
        · rw [c0 (by simp [hx]), Cut_eq (by omega), Option.bind_some, if_neg hx]
          congr 2; omega
      · have h256 : (256 : Int) ^ n ≤ 4294967296 := by rcases hn with rfl | rfl | rfl <;> decide
        rw [c0 (by simp [h11]), c0 (by simp [h12]), if_neg h11, if_neg h12, Cut_eq (by omega), Option.bind_some]
        congr 2; omega
theorem load_sim (h : RW r) {o a : Int} (ho : 11 ≤ o ∧ o ≤ 15) (ha : Wd a) : ∃ v b, device_Machine_load (dm r t) o a = some (v, b) ∧ ref03_Machine_load r o a = some (v, b) ∧ Wd v := by
  obtain ⟨n, hs, hn⟩ := szO_or o
  by_cases hio : o = 13 ∧ a = 536870924
  · obtain ⟨rfl, rfl⟩ := hio
    have hx := h.ix
    have hil := h.il
    unfold device_Machine_load ref03_Machine_load
    dsimp only [jn]
    rw [c1 (b := ((13 : Int) == 13) && ((536870924 : Int) == 536870924)) (by rfl), lenOk_ok (show (dm r t).volatile.regs.length = 32 from h.rl), Option.bind_some, (size_eq (by omega)).2, Option.bind_some, c1 (b := ((13 : Int) == 13) && ((536870924 : Int) == 536870924)) (by rfl)]
    show ∃ v b, (bif decide (r.Index < IntKind.wrap .u32 (r.Inputs.length : Int)) then ((idx r.Inputs r.Index).bind fun u1 => some (u1, true)) else some ((0 : Int), true)) = some (v, b) ∧ _
    rw [wu32, Int.emod_eq_of_lt (by omega) (by omega), w64 (x := r.Index) (by omega)]
    by_cases hlt : r.Index < (r.Inputs.length : Int)
    · obtain ⟨k, hk⟩ : ∃ k : Nat, r.Index = k := ⟨r.Index.toNat, by omega⟩
      have hk' : k < r.Inputs.length := by omega
      rw [c1 (dt hlt), hk, idx_get hk', Option.bind_some]
      exact ⟨_, _, rfl, rfl, h.iw _ (List.getElem_mem hk')⟩
    · rw [c0 (df hlt)]
      exact ⟨_, _, rfl, rfl, by omega⟩
  · cases hi : inD r a n with
    | true =>
      refine ⟨_, _, load_dev h ho ha hio hn hs hi, load_ref h ho ha hio hn hs hi, ?_⟩
      have hb := bv_rg (f := bf r (a - 268435456).toNat) (n := n) (fun j _ => bf_rg h _ j) n (Nat.le_refl n)
      unfold ext
      have h256 : (256 : Int) ^ n ≤ 4294967296 := by rcases hn with rfl | rfl | rfl <;> decide
      by_cases h11 : o = 11
      · subst h11
        obtain rfl : n = 1 := by have : szO 11 = 1 := rfl; omega
        rw [if_pos rfl]
        split <;> omega
      · rw [if_neg h11]
        by_cases h12 : o = 12
        · subst h12
          obtain rfl : n = 2 := by have : szO 12 = 2 := rfl; omega
          rw [if_pos rfl]
          split <;> omega
        · rw [if_neg h12]; omega
    | false =>
      refine ⟨0, false, ?_, ?_, by omega⟩
      · unfold device_Machine_load
        dsimp only [jn]
        rw [c0 (by simpa using hio), (size_eq (by omega)).1, Option.bind_some, hs, place_eq h ha hn, Option.bind_some, if_neg (by rw [hi]; simp)]
        rfl
      · unfold ref03_Machine_load
        dsimp only [jn]
        rw [(size_eq (by omega)).2, Option.bind_some, hs, c0 (by simpa using hio), in_eq h ha hn, Option.bind_some, hi]
        rfl
end
theorem wu8 (n : Int) : IntKind.wrap .u8 n = n % 256 := by
  simp only [IntKind.wrap, IntKind.signed, IntKind.bits]
  simp
def sb (l : List Int) (F : Nat) (v : Int) : Nat → List Int
  | 0 => l
  | k + 1 => (sb l F v k).set (F + k) (v / 256 ^ k % 256)
theorem sb_len (l : List Int) (F : Nat) (v : Int) : ∀ k, (sb l F v k).length = l.length
  | 0 => rfl
  | k + 1 => by show ((sb l F v k).set _ _).length = _; rw [List.length_set, sb_len l F v k]
theorem sb_rg {l : List Int} (h : ∀ x ∈ l, 0 ≤ x ∧ x < 256) (F : Nat) (v : Int) : ∀ k, ∀ x ∈ sb l F v k, 0 ≤ x ∧ x < 256
  | 0 => h
  | k + 1 => fun x hx => by
    rcases List.mem_or_eq_of_mem_set hx with hx | rfl
    · exact sb_rg h F v k x hx
    · omega
section
variable {r : ref03Machine} {t : List DeviceMet}
def RWs (r : ref03Machine) : Prop := RW { r with Steps := r.Steps + 1 }
theorem RW.s (h : RW r) : RWs r := ⟨h.rl, h.rw, h.r0, h.pc, h.sq, h.ix, h.cw, h.cl, h.dw, h.dl, h.iw, h.il, by have := h.ll; show (r.Log.length : Int) ≤ r.Steps + 1; omega, by have := h.st; show 0 ≤ r.Steps + 1; omega⟩
def stR (r : ref03Machine) (o a v : Int) : Bool × ref03Machine :=
  if o = 18 ∧ a = 536870912 then (true, { r with Seq := v })
  else if o = 18 ∧ a = 536870916 then (true, { r with Log := r.Log ++ [⟨r.Seq, v⟩] })
  else if o = 18 ∧ a = 536870920 then (true, { r with Index := v })
  else if o = 18 ∧ a = 536870928 then (true, { r with State := 1, Exit := v })
  else if inD r a (szO o).toNat then (true, { r with Data := sb r.Data (a - 268435456).toNat v (szO o).toNat })
  else (false, r)
theorem log_room (h : RW r) (hs : r.Steps ≤ 1000000) (v : Int) : room (List.length r.Log + List.length ([(⟨r.Seq, v⟩ : GRecord)] : List GRecord)) = some () := room_ok (by have := h.ll; simp; omega)
theorem byte_eq {v : Int} (hv : Wd v) {k : Nat} (hk : k < 4) : IntKind.wrap .u8 (Int.fdiv v (2 ^ (min (Int.toNat (IntKind.wrap .i64 (8 * (k : Int)))) (IntKind.bits .u32)))) = v / 256 ^ k % 256 := by
  have he : min (Int.toNat (IntKind.wrap .i64 (8 * (k : Int)))) (IntKind.bits .u32) = 8 * k := by
    rw [w64 (by omega)]
    simp only [IntKind.bits]
    omega
  have hp : ((2 : Int) ^ (8 * k)) = 256 ^ k := by rw [Int.pow_mul]; rfl
  rw [he, hp, Int.fdiv_eq_ediv_of_nonneg _ (Int.le_of_lt (Int.pow_pos (by decide))), wu8]
theorem st_loop_dev (h : RW r) {a v : Int} (hv : Wd v) {n : Nat} (hn : n = 1 ∨ n = 2 ∨ n = 4) (hi : inD r a n = true) {A : Type} {K : Lp (List Int × Int) Unit → Option A} {X : Option A} (hK : K (.brk (sb r.Data (a - 268435456).toNat v n, (n : Int))) = X) :
    (loopM (fun (x1, x2) => (bif decide (x2 < (n : Int)) then ((lenOk (dm r t).volatile.regs 32).bind fun _ => (nn (IntKind.wrap .i64 (8 * x2))).bind fun _ => (idx x1 (IntKind.wrap .i64 ((a - 268435456) + x2))).bind fun u1 => (idx x1 (IntKind.wrap .i64 ((a - 268435456) + x2))).bind fun u2 => some (Lp.go (List.set x1 (Int.toNat (IntKind.wrap .i64 ((a - 268435456) + x2))) (IntKind.wrap .u8 (Int.fdiv v (2 ^ (min (Int.toNat (IntKind.wrap .i64 (8 * x2))) (IntKind.bits .u32))))), IntKind.wrap .i64 (x2 + 1)))) else (some (Lp.brk (x1, x2))) : Option (Lp ((List Int) × Int) (Unit)))) NN (r.Data, (0 : Int))).bind K = X := by
  obtain ⟨h0, hF⟩ := inD_rg hi
  have hd := h.dl
  obtain ⟨F, hFe⟩ : ∃ F : Nat, F = (a - 268435456).toNat := ⟨_, rfl⟩
  rw [← hFe] at hF hK
  refine run_bind (fun k => (sb r.Data F v k, (k : Int))) n (.brk (sb r.Data F v n, (n : Int))) rfl (by omega) (fun k hk => ?_) ?_ trivial hK
  · have hl := sb_len r.Data F v k
    have hz : IntKind.wrap .i64 ((a - 268435456) + (k : Int)) = ((F + k : Nat) : Int) := by rw [w64 (by omega)]; omega
    dsimp only
    rw [c1 (dlt hk), lenOk_ok (show (dm r t).volatile.regs.length = 32 from h.rl), Option.bind_some, nn_ok (by rw [w64 (by omega)]; omega), Option.bind_some, hz, idx_get (by omega), Option.bind_some, Option.bind_some, byte_eq hv (by omega), w64 (by omega), Int.toNat_natCast]
    rfl
  · dsimp only
    rw [c0 (dge _)]
theorem st_loop_ref (h : RW r) {a v : Int} (hv : Wd v) {n : Nat} (hn : n = 1 ∨ n = 2 ∨ n = 4) (hi : inD r a n = true) {A : Type} {K : Lp (List Int × Int × Int) Unit → Option A} {X : Option A} (hK : K (.brk (sb r.Data (a - 268435456).toNat v n, v / 256 ^ n, (n : Int))) = X) :
    (loopM (fun (x2, x3, x4) => (bif decide (x4 < (n : Int)) then ((idx x2 (IntKind.wrap .i64 ((IntKind.wrap .i64 (a - 268435456)) + x4))).bind fun u1 => (idx x2 (IntKind.wrap .i64 ((IntKind.wrap .i64 (a - 268435456)) + x4))).bind fun u2 => some (Lp.go (List.set x2 (Int.toNat (IntKind.wrap .i64 ((IntKind.wrap .i64 (a - 268435456)) + x4))) (IntKind.wrap .u8 (Int.tmod x3 256)), IntKind.wrap .i64 (Int.tdiv x3 256), IntKind.wrap .i64 (x4 + 1)))) else (some (Lp.brk (x2, x3, x4))) : Option (Lp ((List Int) × Int × Int) (Unit)))) NN (r.Data, IntKind.wrap .i64 v, (0 : Int))).bind K = X := by
  obtain ⟨h0, hF⟩ := inD_rg hi
  have hd := h.dl
  obtain ⟨F, hFe⟩ : ∃ F : Nat, F = (a - 268435456).toNat := ⟨_, rfl⟩
  rw [← hFe] at hF hK
  refine run_bind (fun k => (sb r.Data F v k, v / 256 ^ k, (k : Int))) n (.brk (sb r.Data F v n, v / 256 ^ n, (n : Int))) (by rw [w64 (by omega)]; simp [sb]) (by omega) (fun k hk => ?_) ?_ trivial hK
  · have hl := sb_len r.Data F v k
    have hz : IntKind.wrap .i64 ((IntKind.wrap .i64 (a - 268435456)) + (k : Int)) = ((F + k : Nat) : Int) := by rw [w64 (x := a - 268435456) (by omega), w64 (by omega)]; omega
    have hp : (0 : Int) < 256 ^ k := Int.pow_pos (by decide)
    have hq : 0 ≤ v / 256 ^ k ∧ v / 256 ^ k ≤ v := ⟨Int.ediv_nonneg hv.1 (Int.le_of_lt hp), Int.ediv_le_self _ hv.1⟩
    have hdd : v / 256 ^ k / 256 = v / 256 ^ (k + 1) := by rw [Int.pow_succ, Int.ediv_ediv_of_nonneg (Int.le_of_lt hp)]
    dsimp only
    rw [c1 (dlt hk), hz, idx_get (by omega), Option.bind_some, Option.bind_some, Int.tmod_eq_emod_of_nonneg hq.1, Int.tdiv_eq_ediv_of_nonneg hq.1, hdd, wu8, Int.emod_emod_of_dvd _ (by decide), w64 (x := v / 256 ^ (k + 1)) (by rw [← hdd]; omega), w64 (by omega), Int.toNat_natCast]
    rfl
  · dsimp only
    rw [c0 (dge _)]
theorem store_ref (h : RW r) (hst : r.Steps ≤ 1000000) {o a v : Int} (ho : 16 ≤ o ∧ o ≤ 18) (ha : Wd a) (hv : Wd v) : ref03_Machine_store r o a v = some (stR r o a v) := by
  obtain ⟨n, hs, hn⟩ := szO_or o
  have hsn : (szO o).toNat = n := by omega
  have hp : ∀ k : Int, (IntKind.wrap .i64 (a - 536870912) == k) = decide (a = 536870912 + k) := by
    intro k
    rw [w64 (by omega)]
    by_cases h : a = 536870912 + k
    · rw [dt h]; simp; omega
    · rw [df h]; simp; omega
  have ho2 : (o == 18) = decide (o = 18) := by by_cases h : o = 18 <;> simp [h]
  unfold ref03_Machine_store stR
  dsimp only [jn]
  rw [hp, hp, hp, hp, ho2, log_room h hst, hsn]
  simp only [← Bool.decide_and, Int.add_zero]
  by_cases h1 : o = 18 ∧ a = 536870912
  · rw [c1 (dt (by simpa using h1)), if_pos h1]
  rw [c0 (df (by simpa using h1)), if_neg h1]
  by_cases h2 : o = 18 ∧ a = 536870916
  · rw [c1 (dt (by simpa using h2)), if_pos h2]; rfl
  rw [c0 (df (by simpa using h2)), if_neg h2]
  by_cases h3 : o = 18 ∧ a = 536870920
  · rw [c1 (dt (by simpa using h3)), if_pos h3]
  rw [c0 (df (by simpa using h3)), if_neg h3]
  by_cases h4 : o = 18 ∧ a = 536870928
  · rw [c1 (dt (by simpa using h4)), if_pos h4]
  rw [c0 (df (by simpa using h4)), if_neg h4, (size_eq (by omega)).2, Option.bind_some, hs, in_eq h ha hn, Option.bind_some]
  cases hi : inD r a n with
  | false => rfl
  | true =>
    rw [c0 (by rfl), if_pos rfl]
    exact st_loop_ref h hv hn hi rfl
theorem store_dev (h : RW r) (hst : r.Steps ≤ 1000000) {o a v : Int} (ho : 16 ≤ o ∧ o ≤ 18) (ha : Wd a) (hv : Wd v) : device_Machine_store (dm r t) o a v = some ((stR r o a v).1, dm (stR r o a v).2 t) := by
  obtain ⟨n, hs, hn⟩ := szO_or o
  have hsn : (szO o).toNat = n := by omega
  have hL : lenOk (dm r t).volatile.regs 32 = some () := lenOk_ok (show (dm r t).volatile.regs.length = 32 from h.rl)
  have hR : room (List.length (dm r t).log + List.length ([(⟨(dm r t).volatile.seq, v⟩ : GRecord)] : List GRecord)) = some () := log_room h hst v
  have tail : ∀ (b : Bool), ((device_size o).bind fun y4 => (device_Machine_place (dm r t) a y4).bind fun y5 => bif !y5.2 then (some (false, dm r t)) else ((loopM (fun (x3, x4) => (bif decide (x4 < y4) then ((lenOk (dm r t).volatile.regs 32).bind fun _ => (nn (IntKind.wrap .i64 (8 * x4))).bind fun _ => (idx x3 (IntKind.wrap .i64 (y5.1 + x4))).bind fun u3 => (idx x3 (IntKind.wrap .i64 (y5.1 + x4))).bind fun u4 => some (Lp.go (List.set x3 (Int.toNat (IntKind.wrap .i64 (y5.1 + x4))) (IntKind.wrap .u8 (Int.fdiv v (2 ^ (min (Int.toNat (IntKind.wrap .i64 (8 * x4))) (IntKind.bits .u32))))), IntKind.wrap .i64 (x4 + 1)))) else (some (Lp.brk (x3, x4))) : Option (Lp ((List Int) × Int) (Unit)))) NN ((dm r t).data, (0 : Int))).bind fun o => o.thn (fun (x3, x4) => some (true, { (dm r t) with data := x3 })) (fun _ => none))) = some (if inD r a n then (true, dm { r with Data := sb r.Data (a - 268435456).toNat v n } t) else (false, dm r t)) := by
    intro _
    rw [(size_eq (by omega)).1, Option.bind_some, hs, place_eq h ha hn, Option.bind_some]
    cases hi : inD r a n with
    | false => rfl
    | true =>
      rw [if_pos rfl, if_pos rfl]
      dsimp only
      rw [c0 (by rfl)]
      exact st_loop_dev h hv hn hi rfl
  unfold device_Machine_store stR
  rw [hsn]
  by_cases h18 : o = 18
  · rw [c1 (by simpa using h18)]
    unfold device_Machine_port
    dsimp only [jn]
    rw [hL, hR]
    by_cases h1 : a = 536870912
    · rw [c1 (by simpa using h1), if_pos ⟨h18, h1⟩]; rfl
    rw [c0 (by simpa using h1), if_neg (fun h => h1 h.2)]
    by_cases h2 : a = 536870916
    · rw [c1 (by simpa using h2), if_pos ⟨h18, h2⟩]; rfl
    rw [c0 (by simpa using h2), if_neg (fun h => h2 h.2)]
    by_cases h3 : a = 536870920
    · rw [c1 (by simpa using h3), if_pos ⟨h18, h3⟩]; rfl
    rw [c0 (by simpa using h3), if_neg (fun h => h3 h.2)]
    by_cases h4 : a = 536870928
    · rw [c1 (by simpa using h4), if_pos ⟨h18, h4⟩]; rfl
    rw [c0 (by simpa using h4), if_neg (fun h => h4 h.2), Option.bind_some]
    refine (c0 (by rfl)).trans ((tail true).trans ?_)
    cases inD r a n <;> rfl
  · rw [c0 (by simpa using h18), if_neg (fun h => h18 h.1), if_neg (fun h => h18 h.1), if_neg (fun h => h18 h.1), if_neg (fun h => h18 h.1), tail true]
    cases inD r a n <;> rfl
theorem stR_ok (h : RW r) {o a v : Int} (hv : Wd v) : ((stR r o a v).1 = true → RWs (stR r o a v).2) ∧ ((stR r o a v).1 = false → (stR r o a v).2 = r) ∧ (stR r o a v).2.Regs = r.Regs ∧ (stR r o a v).2.Steps = r.Steps ∧ (stR r o a v).2.Code = r.Code ∧ (stR r o a v).2.Pc = r.Pc := by
  have hs := h.s
  unfold stR
  split
  · exact ⟨fun _ => ⟨hs.rl, hs.rw, hs.r0, hs.pc, hv, hs.ix, hs.cw, hs.cl, hs.dw, hs.dl, hs.iw, hs.il, hs.ll, hs.st⟩, fun h => (by cases h), rfl, rfl, rfl, rfl⟩
  · split
    · exact ⟨fun _ => ⟨hs.rl, hs.rw, hs.r0, hs.pc, hs.sq, hs.ix, hs.cw, hs.cl, hs.dw, hs.dl, hs.iw, hs.il, by have := h.ll; show ((r.Log ++ [(⟨r.Seq, v⟩ : GRecord)]).length : Int) ≤ r.Steps + 1; rw [List.length_append]; simp; omega, hs.st⟩, fun h => (by cases h), rfl, rfl, rfl, rfl⟩
    · split
      · exact ⟨fun _ => ⟨hs.rl, hs.rw, hs.r0, hs.pc, hs.sq, hv, hs.cw, hs.cl, hs.dw, hs.dl, hs.iw, hs.il, hs.ll, hs.st⟩, fun h => (by cases h), rfl, rfl, rfl, rfl⟩
      · split
        · exact ⟨fun _ => ⟨hs.rl, hs.rw, hs.r0, hs.pc, hs.sq, hs.ix, hs.cw, hs.cl, hs.dw, hs.dl, hs.iw, hs.il, hs.ll, hs.st⟩, fun h => (by cases h), rfl, rfl, rfl, rfl⟩
        · split
          · exact ⟨fun _ => ⟨hs.rl, hs.rw, hs.r0, hs.pc, hs.sq, hs.ix, hs.cw, hs.cl, sb_rg h.dw _ _ _, by rw [sb_len]; exact h.dl, hs.iw, hs.il, hs.ll, hs.st⟩, fun h => (by cases h), rfl, rfl, rfl, rfl⟩
          · exact ⟨fun h => (by cases h), fun _ => rfl, rfl, rfl, rfl, rfl⟩
end
end Go.Proofs.YtgacfocekkckfaaGreatDoor
