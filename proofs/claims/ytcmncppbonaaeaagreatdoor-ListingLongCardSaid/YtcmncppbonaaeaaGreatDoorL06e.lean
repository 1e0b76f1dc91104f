/- Plain laws on words as instructions: the parts of a word. No program is in sight here. -/
import Derived.Test.YtcmncppbonaaeaaGreatDoorL06d
set_option linter.unusedVariables false
namespace Go.Proofs.YtcmncppbonaaeaaGreatDoor

/-! Bits as numbers. -/
theorem w32u' {x : Nat} (h : x < 4294967296) : IntKind.wrap .u32 (x : Int) = (x : Int) := w32u (by omega)
theorem bv32 {a : Nat} (h : a < 4294967296) : (BitVec.ofInt 32 (a : Int)).toNat = a := by
  rw [BitVec.ofInt_natCast, BitVec.toNat_ofNat]; exact Nat.mod_eq_of_lt h
theorem or32n {a b : Nat} (ha : a < 4294967296) (hb : b < 4294967296) : bits .or .u32 (a : Int) (b : Int) = ((a ||| b : Nat) : Int) := by
  show IntKind.u32.wrap ((BitVec.ofInt 32 (a : Int) ||| BitVec.ofInt 32 (b : Int)).toNat : Int) = _
  rw [BitVec.toNat_or, bv32 ha, bv32 hb, w32u' (Nat.or_lt_two_pow (n := 32) ha hb)]
theorem and32 (m k : Nat) (hm : m < 4294967296) (hk : k < 32) : bits .and .u32 (m : Int) ((2 ^ k - 1 : Nat) : Int) = ((m % 2 ^ k : Nat) : Int) := by
  have h3 : 2 ^ k < 2 ^ 32 := Nat.pow_lt_pow_right (by omega) hk
  show IntKind.u32.wrap ((BitVec.ofInt 32 (m : Int) &&& BitVec.ofInt 32 ((2 ^ k - 1 : Nat) : Int)).toNat : Int) = _
  have := Nat.mod_le m (2 ^ k)
  rw [BitVec.toNat_and, bv32 hm, bv32 (by omega), Nat.and_two_pow_sub_one_eq_mod, w32u' (by omega)]
theorem high20 (x : Nat) (h : x < 4294967296) : x &&& 4294963200 = x / 4096 * 4096 := by
  rw [show (4294963200 : Nat) = (2 ^ 20 - 1) <<< 12 from rfl, show x / 4096 * 4096 = (x >>> 12) <<< 12 by rw [Nat.shiftLeft_eq, Nat.shiftRight_eq_div_pow]]
  apply Nat.eq_of_testBit_eq
  intro i
  rw [Nat.testBit_and, Nat.testBit_shiftLeft, Nat.testBit_shiftLeft, Nat.testBit_shiftRight, Nat.testBit_two_pow_sub_one]
  by_cases h1 : 12 ≤ i
  · simp only [ge_iff_le, h1, decide_true, Bool.true_and]
    rw [show 12 + (i - 12) = i by omega]
    by_cases h2 : i - 12 < 20
    · simp [h2]
    · rw [Nat.testBit_lt_two_pow (Nat.lt_of_lt_of_le h (show 4294967296 ≤ 2 ^ i from Nat.pow_le_pow_right (n := 2) (by omega) (show 32 ≤ i by omega)))]
      rfl
  · simp [h1]
theorem andN (x : Nat) (h : x < 4294967296) : bits .andNot .u32 (x : Int) 4095 = ((x / 4096 * 4096 : Nat) : Int) := by
  show IntKind.u32.wrap ((BitVec.ofInt 32 (x : Int) &&& ~~~ BitVec.ofInt 32 4095).toNat : Int) = _
  rw [BitVec.toNat_and, bv32 h, show (~~~ BitVec.ofInt 32 4095).toNat = 4294963200 by decide +kernel, high20 x h, w32u' (by omega)]
theorem ibits {w : Nat} (hw : w < 4294967296) {a m : Int} (ha : 0 ≤ a ∧ a < 32) (hm : 0 ≤ m ∧ m < 32) : inst_bits (w : Int) a m = some ((w / 2 ^ a.toNat % 2 ^ m.toNat : Nat) : Int) := by
  unfold inst_bits nn
  rw [if_pos ha.1, if_pos hm.1, Option.bind_some, Option.bind_some]
  have e1 : min (Int.toNat a) (IntKind.bits .u32) = a.toNat := Nat.min_eq_left (by show a.toNat ≤ 32; omega)
  have e2 : min (Int.toNat m) (IntKind.bits .u32) = m.toNat := Nat.min_eq_left (by show m.toNat ≤ 32; omega)
  have h3 : 2 ^ m.toNat < 2 ^ 32 := Nat.pow_lt_pow_right (by omega) (by omega)
  have h4 : 0 < 2 ^ m.toNat := Nat.pow_pos (by omega)
  have h5 : 0 < 2 ^ a.toNat := Nat.pow_pos (by omega)
  have e3 : IntKind.wrap .u32 ((IntKind.wrap .u32 (1 * 2 ^ m.toNat)) - 1) = ((2 ^ m.toNat - 1 : Nat) : Int) := by
    rw [show (1 * 2 ^ m.toNat : Int) = ((2 ^ m.toNat : Nat) : Int) by simp, w32u' (by omega), show ((2 ^ m.toNat : Nat) : Int) - 1 = ((2 ^ m.toNat - 1 : Nat) : Int) by omega, w32u' (by omega)]
  have e4 : Int.fdiv (w : Int) (2 ^ a.toNat) = ((w / 2 ^ a.toNat : Nat) : Int) := by
    rw [show (2 ^ a.toNat : Int) = ((2 ^ a.toNat : Nat) : Int) by simp, Int.fdiv_eq_ediv_of_nonneg _ (by omega), Int.natCast_ediv]
  have h6 : w / 2 ^ a.toNat ≤ w := Nat.div_le_self _ _
  rw [e1, e2, e3, e4, and32 _ _ (by omega) (by omega)]
theorem ibP {w : Nat} (hw : w < 4294967296) {a m : Int} {p q : Nat} (ha : 0 ≤ a ∧ a < 32) (hm : 0 ≤ m ∧ m < 32) (hp : 2 ^ a.toNat = p) (hq : 2 ^ m.toNat = q) : inst_bits (w : Int) a m = some ((w / p % q : Nat) : Int) := by
  subst hp hq
  exact ibits hw ha hm

/-! The reference's parts. -/
theorem two_eq {k : Int} (h : 0 ≤ k ∧ k < 62) : ref02_two k = some ((2 ^ k.toNat : Nat) : Int) := by
  obtain ⟨n, rfl⟩ : ∃ n : Nat, k = (n : Int) := ⟨k.toNat, by omega⟩
  unfold ref02_two
  have hp : ∀ j, j ≤ n → 2 ^ j < 2 ^ 62 := fun j hj => Nat.pow_lt_pow_right (by omega) (by omega)
  refine run_bind (fun j => (((2 ^ j : Nat) : Int), (j : Int))) n (.brk (((2 ^ n : Nat) : Int), (n : Int))) rfl (by omega) (fun j hj => ?_) ?_ trivial rfl
  · have := hp (j + 1) (by omega)
    have e : (2 : Nat) ^ (j + 1) = 2 * 2 ^ j := by rw [Nat.pow_succ, Nat.mul_comm]
    simp only []
    rw [c1 (dt (by omega)), w64 (by omega), w64 (by omega), e]
    congr 3
  · simp only []
    rw [c0 (df (by omega))]
theorem move_eq {n : Int} {w : Nat} (hw : w < 4294967296) (h : (n < 0 ∧ n + 4294967296 = (w : Int)) ∨ (0 ≤ n ∧ n = (w : Int))) {a b c : Int} (ha : 0 ≤ a ∧ a ≤ b ∧ b < 32) (hc : 0 ≤ c ∧ c + (b - a + 1) ≤ 32) :
    ref02_move n a b c = some ((w / 2 ^ a.toNat % 2 ^ (b - a + 1).toNat * 2 ^ c.toNat : Nat) : Int) := by
  unfold ref02_move
  dsimp only [jn]
  have key : ∀ x1 : Int, x1 = (w : Int) → ((ref02_two a).bind fun y1 => (nz y1).bind fun _ => (ref02_two (IntKind.wrap .i64 ((IntKind.wrap .i64 (b - a)) + 1))).bind fun y2 => (nz y2).bind fun _ => (ref02_two c).bind fun y3 => some (IntKind.wrap .i64 ((Int.tmod (IntKind.wrap .i64 (Int.tdiv x1 y1)) y2) * y3))) = some ((w / 2 ^ a.toNat % 2 ^ (b - a + 1).toNat * 2 ^ c.toNat : Nat) : Int) := by
    intro x1 hx
    subst hx
    have p1 : 0 < 2 ^ a.toNat := Nat.pow_pos (by decide)
    have p2 : 0 < 2 ^ (b - a + 1).toNat := Nat.pow_pos (by decide)
    have p3 : 0 < 2 ^ c.toNat := Nat.pow_pos (by decide)
    have p4 : 2 ^ (b - a + 1).toNat * 2 ^ c.toNat ≤ 4294967296 := by
      rw [← Nat.pow_add]
      exact Nat.pow_le_pow_right (n := 2) (by decide) (show (b - a + 1).toNat + c.toNat ≤ 32 by omega)
    rw [two_eq (by omega), Option.bind_some, show IntKind.wrap .i64 (b - a) = b - a from w64 (by omega), show IntKind.wrap .i64 (b - a + 1) = b - a + 1 from w64 (by omega), two_eq (by omega), two_eq (by omega)]
    clear h ha hc
    generalize 2 ^ a.toNat = A at *
    generalize 2 ^ (b - a + 1).toNat = B at *
    generalize 2 ^ c.toNat = C at *
    unfold nz
    rw [if_neg (by omega), Option.bind_some, Option.bind_some, if_neg (by omega), Option.bind_some, Option.bind_some]
    have h6 : w / A ≤ w := Nat.div_le_self _ _
    have h7 : w / A % B < B := Nat.mod_lt _ p2
    have h8 : w / A % B * C < 4294967296 := Nat.lt_of_lt_of_le ((Nat.mul_lt_mul_right p3).2 h7) p4
    have q1 : Int.tdiv (w : Int) (A : Int) = ((w / A : Nat) : Int) := by rw [Int.tdiv_eq_ediv_of_nonneg (Int.natCast_nonneg _), ← Int.natCast_ediv]
    have q2 : IntKind.wrap .i64 ((w / A : Nat) : Int) = ((w / A : Nat) : Int) := by
      generalize w / A = z at *
      exact w64 (by omega)
    have q3 : Int.tmod ((w / A : Nat) : Int) (B : Int) = ((w / A % B : Nat) : Int) := by rw [Int.tmod_eq_emod_of_nonneg (Int.natCast_nonneg _), ← Int.natCast_emod]
    have q4 : IntKind.wrap .i64 ((w / A % B * C : Nat) : Int) = ((w / A % B * C : Nat) : Int) := by
      generalize w / A % B * C = z at *
      exact w64 (by omega)
    rw [q1, q2, q3, ← Int.natCast_mul, q4]
  rcases h with ⟨h1, h2⟩ | ⟨h1, h2⟩
  · rw [c1 (dt h1)]
    exact key _ (by rw [w64 (by omega)]; exact h2)
  · rw [c0 (df (by omega))]
    exact key _ h2
theorem signed_eq {n k : Int} (hk : 1 ≤ k ∧ k ≤ 32) (hn : 0 ≤ n ∧ n < 4294967296) : ref02_signed n k = some (if (2 ^ (k - 1).toNat : Nat) ≤ n then n - (2 ^ k.toNat : Nat) else n) := by
  unfold ref02_signed
  have : 2 ^ k.toNat ≤ 2 ^ 32 := Nat.pow_le_pow_right (by omega) (by omega)
  rw [w64 (by omega), two_eq (by omega), Option.bind_some]
  split
  · rename_i h
    have h9 : 0 < 2 ^ k.toNat := Nat.pow_pos (by decide)
    rw [c1 (dt h), two_eq (by omega), Option.bind_some]
    generalize 2 ^ k.toNat = A at *
    rw [w64 (by omega)]
  · rename_i h
    rw [c0 (df h)]

/-! The number of a word. -/
def immF (f : Int) (w : Nat) : Int :=
  if f = 85 then (if 524288 ≤ w / 4096 % 1048576 then ((w / 4096 % 1048576 : Nat) : Int) * 4096 - 4294967296 else ((w / 4096 % 1048576 : Nat) : Int) * 4096)
  else if f = 74 then ((w / 2097152 % 1024 : Nat) : Int) * 2 + ((w / 1048576 % 2 : Nat) : Int) * 2048 + ((w / 4096 % 256 : Nat) : Int) * 4096 - ((w / 2147483648 % 2 : Nat) : Int) * 1048576
  else if f = 73 then (if 2048 ≤ w / 1048576 % 4096 then ((w / 1048576 % 4096 : Nat) : Int) - 4096 else ((w / 1048576 % 4096 : Nat) : Int))
  else if f = 72 then ((w / 1048576 % 32 : Nat) : Int)
  else if f = 83 then (if 64 ≤ w / 33554432 % 128 then ((w / 33554432 % 128 : Nat) : Int) * 32 + ((w / 128 % 32 : Nat) : Int) - 4096 else ((w / 33554432 % 128 : Nat) : Int) * 32 + ((w / 128 % 32 : Nat) : Int))
  else if f = 66 then ((w / 33554432 % 64 : Nat) : Int) * 32 + ((w / 256 % 16 : Nat) : Int) * 2 + ((w / 128 % 2 : Nat) : Int) * 2048 - ((w / 2147483648 % 2 : Nat) : Int) * 4096
  else 0
theorem fN (w k m : Nat) (h : 0 < m) : ∃ x, w / k % m = x ∧ x < m := ⟨_, rfl, Nat.mod_lt _ h⟩
theorem Gather_eq {w : Nat} (hw : w < 4294967296) (f : Int) : ref02_Gather f (w : Int) = some (immF f w) := by
  have mv : ∀ {a b c : Int}, 0 ≤ a ∧ a ≤ b ∧ b < 32 → 0 ≤ c ∧ c + (b - a + 1) ≤ 32 → ref02_move (w : Int) a b c = some ((w / 2 ^ a.toNat % 2 ^ (b - a + 1).toNat * 2 ^ c.toNat : Nat) : Int) := fun ha hc => move_eq hw (.inr ⟨Int.natCast_nonneg _, rfl⟩) ha hc
  unfold ref02_Gather immF
  by_cases h : f = 85
  · subst h
    rw [if_pos rfl]
    simp (disch := decide) only [Int.reduceBEq, cond_true, cond_false, mv, Option.bind_some, Int.reduceToNat, Int.reduceSub, Int.reduceAdd, Nat.reducePow]
    obtain ⟨x, e, hx⟩ := fN w 4096 1048576 (by decide)
    rw [e]
    clear mv hw
    rw [signed_eq (by omega) (by omega), Option.bind_some]
    simp only [Int.reduceToNat, Int.reduceSub, Nat.reducePow]
    congr 1
    split <;> split <;> omega
  rw [if_neg h, c0 (by simpa using h)]
  by_cases h : f = 74
  · subst h
    rw [if_pos rfl]
    simp (disch := decide) only [Int.reduceBEq, cond_true, cond_false, mv, Option.bind_some, Int.reduceToNat, Int.reduceSub, Int.reduceAdd, Nat.reducePow]
    obtain ⟨x, e1, h1⟩ := fN w 2147483648 2 (by decide)
    obtain ⟨y, e2, h2⟩ := fN w 2097152 1024 (by decide)
    obtain ⟨z, e3, h3⟩ := fN w 1048576 2 (by decide)
    obtain ⟨u, e4, h4⟩ := fN w 4096 256 (by decide)
    rw [e1, e2, e3, e4]
    clear mv hw e1 e2 e3 e4
    simp (disch := omega) only [w64]
    rw [signed_eq (by omega) (by omega), Option.bind_some]
    simp only [Int.reduceToNat, Int.reduceSub, Nat.reducePow]
    congr 1
    split <;> omega
  rw [if_neg h, c0 (by simpa using h)]
  by_cases h : f = 73
  · subst h
    rw [if_pos rfl]
    simp (disch := decide) only [Int.reduceBEq, cond_true, cond_false, mv, Option.bind_some, Int.reduceToNat, Int.reduceSub, Int.reduceAdd, Nat.reducePow]
    obtain ⟨x, e, hx⟩ := fN w 1048576 4096 (by decide)
    rw [e]
    clear mv hw
    rw [signed_eq (by omega) (by omega), Option.bind_some]
    simp only [Int.reduceToNat, Int.reduceSub, Nat.reducePow]
    congr 1
    split <;> split <;> omega
  rw [if_neg h, c0 (by simpa using h)]
  by_cases h : f = 72
  · subst h
    rw [if_pos rfl]
    simp (disch := decide) only [Int.reduceBEq, cond_true, cond_false, mv, Option.bind_some, Int.reduceToNat, Int.reduceSub, Int.reduceAdd, Nat.reducePow, Nat.mul_one]
  rw [if_neg h, c0 (by simpa using h)]
  by_cases h : f = 83
  · subst h
    rw [if_pos rfl]
    simp (disch := decide) only [Int.reduceBEq, cond_true, cond_false, mv, Option.bind_some, Int.reduceToNat, Int.reduceSub, Int.reduceAdd, Nat.reducePow]
    obtain ⟨x, e1, h1⟩ := fN w 33554432 128 (by decide)
    obtain ⟨y, e2, h2⟩ := fN w 128 32 (by decide)
    rw [e1, e2]
    clear mv hw e1 e2
    simp (disch := omega) only [w64]
    rw [signed_eq (by omega) (by omega), Option.bind_some]
    simp only [Int.reduceToNat, Int.reduceSub, Nat.reducePow]
    congr 1
    split <;> split <;> omega
  rw [if_neg h, c0 (by simpa using h)]
  by_cases h : f = 66
  · subst h
    rw [if_pos rfl]
    simp (disch := decide) only [Int.reduceBEq, cond_true, cond_false, mv, Option.bind_some, Int.reduceToNat, Int.reduceSub, Int.reduceAdd, Nat.reducePow]
    obtain ⟨x, e1, h1⟩ := fN w 2147483648 2 (by decide)
    obtain ⟨y, e2, h2⟩ := fN w 33554432 64 (by decide)
    obtain ⟨z, e3, h3⟩ := fN w 256 16 (by decide)
    obtain ⟨u, e4, h4⟩ := fN w 128 2 (by decide)
    rw [e1, e2, e3, e4]
    clear mv hw e1 e2 e3 e4
    simp (disch := omega) only [w64]
    rw [signed_eq (by omega) (by omega), Option.bind_some]
    simp only [Int.reduceToNat, Int.reduceSub, Nat.reducePow]
    congr 1
    split <;> omega
  rw [if_neg h, c0 (by simpa using h)]

/-! The program's parts. -/
theorem w32s {x : Nat} (h : x < 4294967296) : IntKind.wrap .i32 (x : Int) = if 2147483648 ≤ x then (x : Int) - 4294967296 else (x : Int) := by
  have e : (x : Int) % 2 ^ 32 = x := Int.emod_eq_of_lt (by omega) (by omega)
  show (if (true && decide ((x : Int) % 2 ^ 32 ≥ 2 ^ 31)) = true then (x : Int) % 2 ^ 32 - 2 ^ 32 else (x : Int) % 2 ^ 32) = _
  rw [Bool.true_and]
  simp only [e, decide_eq_true_eq]
  split <;> split <;> omega
theorem wu32n {n : Int} (h : -4294967296 ≤ n ∧ n < 0) : IntKind.wrap .u32 n = n + 4294967296 := by
  simp only [IntKind.wrap, IntKind.signed, IntKind.bits]
  simp
  omega
theorem wi32 {x : Nat} (h : x < 4294967296) : IntKind.wrap .i64 (IntKind.wrap .i32 (x : Int)) = if 2147483648 ≤ x then (x : Int) - 4294967296 else (x : Int) := by
  rw [w32s h]
  split <;> exact w64 (by omega)
theorem orS {a b : Nat} (k : Nat) (h : b < 2 ^ k) : a * 2 ^ k ||| b = a * 2 ^ k + b := by
  rw [Nat.mul_comm]
  exact (Nat.two_pow_add_eq_or_of_lt h a).symm
theorem orS' {a b : Nat} (k : Nat) (h : b < 2 ^ k) : b ||| a * 2 ^ k = a * 2 ^ k + b := by
  rw [Nat.or_comm]
  exact orS k h
theorem orP {a b p : Nat} (k : Nat) (hp : 2 ^ k = p) (h : b < p) : a * p ||| b = a * p + b := by
  subst hp
  exact orS k h
theorem orP' {a b p : Nat} (k : Nat) (hp : 2 ^ k = p) (h : b < p) : b ||| a * p = a * p + b := by
  subst hp
  exact orS' k h
theorem shP {x p : Nat} {k : Int} (hk : 0 ≤ k ∧ k ≤ 32) (hp : 2 ^ k.toNat = p) (h : x * p < 4294967296) : IntKind.wrap .u32 ((x : Int) * 2 ^ (min (Int.toNat k) (IntKind.bits .u32))) = ((x * p : Nat) : Int) := by
  subst hp
  rw [show min (Int.toNat k) (IntKind.bits .u32) = k.toNat from Nat.min_eq_left (by show k.toNat ≤ 32; omega), show (x : Int) * 2 ^ k.toNat = ((x * 2 ^ k.toNat : Nat) : Int) by simp, w32u' h]
theorem sign21 {x : Nat} (h : x < 2097152) : ∃ y, word_Sign (x : Int) 21 = some y ∧ IntKind.wrap .i64 (IntKind.wrap .i32 y) = if 1048576 ≤ x then (x : Int) - 2097152 else x := by
  unfold word_Sign nn
  simp only [Int.reduceLT, decide_false, cond_false]
  rw [show IntKind.wrap .i64 (32 - 21) = 11 from rfl, if_pos (by decide), Option.bind_some, Option.bind_some, show (2 : Int) ^ (min (Int.toNat 11) (IntKind.bits .u32)) = 2048 from rfl, show (2 : Int) ^ (min (Int.toNat 11) (IntKind.bits .i32)) = 2048 from rfl,
    show (x : Int) * 2048 = ((x * 2048 : Nat) : Int) by omega, w32u' (by omega), w32s (by omega), Int.fdiv_eq_ediv_of_nonneg _ (by decide)]
  refine ⟨_, rfl, ?_⟩
  by_cases hx : 1048576 ≤ x
  · rw [if_pos (by omega), if_pos hx, show (((x * 2048 : Nat) : Int) - 4294967296) / 2048 = (x : Int) - 2097152 by omega, wu32n (by omega), show (x : Int) - 2097152 + 4294967296 = ((x + 4292870144 : Nat) : Int) by omega, wi32 (by omega), if_pos (by omega)]
    omega
  · rw [if_neg (by omega), if_neg hx, show ((x * 2048 : Nat) : Int) / 2048 = (x : Int) by omega, w32u' (by omega), wi32 (by omega), if_neg (by omega)]
theorem sign12 {x : Nat} (h : x < 4096) : ∃ y, word_Sign (x : Int) 12 = some y ∧ IntKind.wrap .i64 (IntKind.wrap .i32 y) = if 2048 ≤ x then (x : Int) - 4096 else x := by
  unfold word_Sign nn
  simp only [Int.reduceLT, decide_false, cond_false]
  rw [show IntKind.wrap .i64 (32 - 12) = 20 from rfl, if_pos (by decide), Option.bind_some, Option.bind_some, show (2 : Int) ^ (min (Int.toNat 20) (IntKind.bits .u32)) = 1048576 from rfl, show (2 : Int) ^ (min (Int.toNat 20) (IntKind.bits .i32)) = 1048576 from rfl,
    show (x : Int) * 1048576 = ((x * 1048576 : Nat) : Int) by omega, w32u' (by omega), w32s (by omega), Int.fdiv_eq_ediv_of_nonneg _ (by decide)]
  refine ⟨_, rfl, ?_⟩
  by_cases hx : 2048 ≤ x
  · rw [if_pos (by omega), if_pos hx, show (((x * 1048576 : Nat) : Int) - 4294967296) / 1048576 = (x : Int) - 4096 by omega, wu32n (by omega), show (x : Int) - 4096 + 4294967296 = ((x + 4294963200 : Nat) : Int) by omega, wi32 (by omega), if_pos (by omega)]
    omega
  · rw [if_neg (by omega), if_neg hx, show ((x * 1048576 : Nat) : Int) / 1048576 = (x : Int) by omega, w32u' (by omega), wi32 (by omega), if_neg (by omega)]
theorem sign13 {x : Nat} (h : x < 8192) : ∃ y, word_Sign (x : Int) 13 = some y ∧ IntKind.wrap .i64 (IntKind.wrap .i32 y) = if 4096 ≤ x then (x : Int) - 8192 else x := by
  unfold word_Sign nn
  simp only [Int.reduceLT, decide_false, cond_false]
  rw [show IntKind.wrap .i64 (32 - 13) = 19 from rfl, if_pos (by decide), Option.bind_some, Option.bind_some, show (2 : Int) ^ (min (Int.toNat 19) (IntKind.bits .u32)) = 524288 from rfl, show (2 : Int) ^ (min (Int.toNat 19) (IntKind.bits .i32)) = 524288 from rfl,
    show (x : Int) * 524288 = ((x * 524288 : Nat) : Int) by omega, w32u' (by omega), w32s (by omega), Int.fdiv_eq_ediv_of_nonneg _ (by decide)]
  refine ⟨_, rfl, ?_⟩
  by_cases hx : 4096 ≤ x
  · rw [if_pos (by omega), if_pos hx, show (((x * 524288 : Nat) : Int) - 4294967296) / 524288 = (x : Int) - 8192 by omega, wu32n (by omega), show (x : Int) - 8192 + 4294967296 = ((x + 4294959104 : Nat) : Int) by omega, wi32 (by omega), if_pos (by omega)]
    omega
  · rw [if_neg (by omega), if_neg hx, show ((x * 524288 : Nat) : Int) / 524288 = (x : Int) by omega, w32u' (by omega), wi32 (by omega), if_neg (by omega)]
theorem told85 {w : Nat} (hw : w < 4294967296) : inst_told 85 (w : Int) = some (immF 85 w) := by
  unfold inst_told immF
  rw [if_pos rfl, show ((85 : Int) == 85) = true from rfl, cond_true]
  rw [andN w hw, show w / 4096 = w / 4096 % 1048576 by omega]
  obtain ⟨x, e, hx⟩ := fN w 4096 1048576 (by decide)
  rw [e, show x % 1048576 = x by omega]
  clear hw e
  rw [wi32 (by omega)]
  congr 1
  split <;> split <;> omega
theorem told74 {w : Nat} (hw : w < 4294967296) : inst_told 74 (w : Int) = some (immF 74 w) := by
  have b0 : inst_bits (w : Int) 31 1 = some ((w / 2147483648 % 2 : Nat) : Int) := ibP hw (by decide) (by decide) (by decide) (by decide)
  have b1 : inst_bits (w : Int) 21 10 = some ((w / 2097152 % 1024 : Nat) : Int) := ibP hw (by decide) (by decide) (by decide) (by decide)
  have b2 : inst_bits (w : Int) 20 1 = some ((w / 1048576 % 2 : Nat) : Int) := ibP hw (by decide) (by decide) (by decide) (by decide)
  have b3 : inst_bits (w : Int) 12 8 = some ((w / 4096 % 256 : Nat) : Int) := ibP hw (by decide) (by decide) (by decide) (by decide)
  unfold inst_told immF
  rw [if_neg (by decide), if_pos rfl, show ((74 : Int) == 85) = false from rfl, cond_false, show ((74 : Int) == 74) = true from rfl, cond_true]
  rw [b0, Option.bind_some, b1, Option.bind_some, b2, Option.bind_some, b3, Option.bind_some]
  obtain ⟨x, e0, h0⟩ := fN w 2147483648 2 (by decide)
  obtain ⟨y, e1, h1⟩ := fN w 2097152 1024 (by decide)
  obtain ⟨z, e2, h2⟩ := fN w 1048576 2 (by decide)
  obtain ⟨u, e3, h3⟩ := fN w 4096 256 (by decide)
  rw [e0, e1, e2, e3]
  clear b0 b1 b2 b3 hw e0 e1 e2 e3
  have a1 : x * 1048576 ||| y * 2 = x * 1048576 + y * 2 := orP 20 rfl (by omega)
  have a2 : x * 1048576 + y * 2 ||| z * 2048 = x * 1048576 + (z * 2048 + y * 2) := by
    rw [← orP 20 rfl (by omega), Nat.or_assoc, orP' 11 rfl (by omega), orP 20 rfl (by omega)]
  have a3 : x * 1048576 + (z * 2048 + y * 2) ||| u * 4096 = x * 1048576 + (u * 4096 + (z * 2048 + y * 2)) := by
    rw [← orP 20 rfl (by omega), Nat.or_assoc, orP' 12 rfl (by omega), orP 20 rfl (by omega)]
  rw [shP (k := 20) (p := 1048576) (by decide) rfl (by omega), shP (k := 1) (p := 2) (by decide) rfl (by omega), shP (k := 11) (p := 2048) (by decide) rfl (by omega), shP (k := 12) (p := 4096) (by decide) rfl (by omega), or32n (by omega) (by omega), a1, or32n (by omega) (by omega), a2, or32n (by omega) (by omega), a3]
  clear a1 a2 a3
  obtain ⟨v, hy, hv⟩ := sign21 (x := x * 1048576 + (u * 4096 + (z * 2048 + y * 2))) (by omega)
  rw [hy, Option.bind_some, hv]
  clear hv hy
  congr 1
  split <;> omega
theorem told73 {w : Nat} (hw : w < 4294967296) : inst_told 73 (w : Int) = some (immF 73 w) := by
  unfold inst_told immF
  rw [if_neg (by decide), if_neg (by decide), if_pos rfl, show ((73 : Int) == 85) = false from rfl, cond_false, show ((73 : Int) == 74) = false from rfl, cond_false, show ((73 : Int) == 73) = true from rfl, cond_true]
  rw [show (2 : Int) ^ (min (Int.toNat 20) (IntKind.bits .i32)) = 1048576 from rfl, Int.fdiv_eq_ediv_of_nonneg _ (by decide), w32s hw]
  have : 2147483648 ≤ w ↔ 2048 ≤ w / 1048576 % 4096 := by omega
  congr 1
  by_cases hs : 2147483648 ≤ w
  · rw [if_pos hs, if_pos (this.1 hs), show ((w : Int) - 4294967296) / 1048576 = ((w / 1048576 % 4096 : Nat) : Int) - 4096 by omega]
    refine w64 ⟨?_, ?_⟩ <;> omega
  · rw [if_neg hs, if_neg (fun e => hs (this.2 e)), show (w : Int) / 1048576 = ((w / 1048576 % 4096 : Nat) : Int) by omega]
    refine w64 ⟨?_, ?_⟩ <;> omega
theorem told72 {w : Nat} (hw : w < 4294967296) : inst_told 72 (w : Int) = some (immF 72 w) := by
  have b0 : inst_bits (w : Int) 20 5 = some ((w / 1048576 % 32 : Nat) : Int) := ibP hw (by decide) (by decide) (by decide) (by decide)
  unfold inst_told immF
  rw [if_neg (by decide), if_neg (by decide), if_neg (by decide), if_pos rfl, show ((72 : Int) == 85) = false from rfl, cond_false, show ((72 : Int) == 74) = false from rfl, cond_false, show ((72 : Int) == 73) = false from rfl, cond_false, show ((72 : Int) == 72) = true from rfl, cond_true]
  rw [b0]
  simp only [Option.bind_some, Int.reduceToNat]
  rw [w64 (by omega)]
theorem told83 {w : Nat} (hw : w < 4294967296) : inst_told 83 (w : Int) = some (immF 83 w) := by
  have b0 : inst_bits (w : Int) 25 7 = some ((w / 33554432 % 128 : Nat) : Int) := ibP hw (by decide) (by decide) (by decide) (by decide)
  have b1 : inst_bits (w : Int) 7 5 = some ((w / 128 % 32 : Nat) : Int) := ibP hw (by decide) (by decide) (by decide) (by decide)
  unfold inst_told immF
  rw [if_neg (by decide), if_neg (by decide), if_neg (by decide), if_neg (by decide), if_pos rfl, show ((83 : Int) == 85) = false from rfl, cond_false, show ((83 : Int) == 74) = false from rfl, cond_false, show ((83 : Int) == 73) = false from rfl, cond_false, show ((83 : Int) == 72) = false from rfl, cond_false, show ((83 : Int) == 83) = true from rfl, cond_true]
  rw [b0, Option.bind_some, b1, Option.bind_some]
  obtain ⟨x, e0, h0⟩ := fN w 33554432 128 (by decide)
  obtain ⟨y, e1, h1⟩ := fN w 128 32 (by decide)
  rw [e0, e1]
  clear b0 b1 hw e0 e1
  have a1 : x * 32 ||| y = x * 32 + y := orP 5 rfl (by omega)
  rw [shP (k := 5) (p := 32) (by decide) rfl (by omega), or32n (by omega) (by omega), a1]
  clear a1
  obtain ⟨v, hy, hv⟩ := sign12 (x := x * 32 + y) (by omega)
  rw [hy, Option.bind_some, hv]
  clear hv hy
  congr 1
  split <;> split <;> omega
theorem told66 {w : Nat} (hw : w < 4294967296) : inst_told 66 (w : Int) = some (immF 66 w) := by
  have b0 : inst_bits (w : Int) 31 1 = some ((w / 2147483648 % 2 : Nat) : Int) := ibP hw (by decide) (by decide) (by decide) (by decide)
  have b1 : inst_bits (w : Int) 25 6 = some ((w / 33554432 % 64 : Nat) : Int) := ibP hw (by decide) (by decide) (by decide) (by decide)
  have b2 : inst_bits (w : Int) 8 4 = some ((w / 256 % 16 : Nat) : Int) := ibP hw (by decide) (by decide) (by decide) (by decide)
  have b3 : inst_bits (w : Int) 7 1 = some ((w / 128 % 2 : Nat) : Int) := ibP hw (by decide) (by decide) (by decide) (by decide)
  unfold inst_told immF
  rw [if_neg (by decide), if_neg (by decide), if_neg (by decide), if_neg (by decide), if_neg (by decide), if_pos rfl, show ((66 : Int) == 85) = false from rfl, cond_false, show ((66 : Int) == 74) = false from rfl, cond_false, show ((66 : Int) == 73) = false from rfl, cond_false, show ((66 : Int) == 72) = false from rfl, cond_false, show ((66 : Int) == 83) = false from rfl, cond_false, show ((66 : Int) == 66) = true from rfl, cond_true]
  rw [b0, Option.bind_some, b1, Option.bind_some, b2, Option.bind_some, b3, Option.bind_some]
  obtain ⟨x, e0, h0⟩ := fN w 2147483648 2 (by decide)
  obtain ⟨y, e1, h1⟩ := fN w 33554432 64 (by decide)
  obtain ⟨z, e2, h2⟩ := fN w 256 16 (by decide)
  obtain ⟨u, e3, h3⟩ := fN w 128 2 (by decide)
  rw [e0, e1, e2, e3]
  clear b0 b1 b2 b3 hw e0 e1 e2 e3
  have a1 : x * 4096 ||| y * 32 = x * 4096 + y * 32 := orP 12 rfl (by omega)
  have a2 : x * 4096 + y * 32 ||| z * 2 = x * 4096 + (y * 32 + z * 2) := by
    rw [← orP 12 rfl (by omega), Nat.or_assoc, orP 5 rfl (by omega), orP 12 rfl (by omega)]
  have a3 : x * 4096 + (y * 32 + z * 2) ||| u * 2048 = x * 4096 + (u * 2048 + (y * 32 + z * 2)) := by
    rw [← orP 12 rfl (by omega), Nat.or_assoc, orP' 11 rfl (by omega), orP 12 rfl (by omega)]
  rw [shP (k := 12) (p := 4096) (by decide) rfl (by omega), shP (k := 5) (p := 32) (by decide) rfl (by omega), shP (k := 1) (p := 2) (by decide) rfl (by omega), shP (k := 11) (p := 2048) (by decide) rfl (by omega), or32n (by omega) (by omega), a1, or32n (by omega) (by omega), a2, or32n (by omega) (by omega), a3]
  clear a1 a2 a3
  obtain ⟨v, hy, hv⟩ := sign13 (x := x * 4096 + (u * 2048 + (y * 32 + z * 2))) (by omega)
  rw [hy, Option.bind_some, hv]
  clear hv hy
  congr 1
  split <;> omega
theorem told_eq {w : Nat} (hw : w < 4294967296) (f : Int) : inst_told f (w : Int) = some (immF f w) := by
  by_cases h : f = 85
  · rw [h]; exact told85 hw
  by_cases h : f = 74
  · rw [h]; exact told74 hw
  by_cases h : f = 73
  · rw [h]; exact told73 hw
  by_cases h : f = 72
  · rw [h]; exact told72 hw
  by_cases h : f = 83
  · rw [h]; exact told83 hw
  by_cases h : f = 66
  · rw [h]; exact told66 hw
  unfold inst_told immF
  rename_i h1 h2 h3 h4 h5
  rw [if_neg h1, if_neg h2, if_neg h3, if_neg h4, if_neg h5, if_neg h, c0 (by simpa using h1), c0 (by simpa using h2), c0 (by simpa using h3), c0 (by simpa using h4), c0 (by simpa using h5), c0 (by simpa using h)]
end Go.Proofs.YtcmncppbonaaeaaGreatDoor
