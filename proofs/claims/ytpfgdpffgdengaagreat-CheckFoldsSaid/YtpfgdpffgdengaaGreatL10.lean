/- Plain laws on functions of words. No program is in sight here. -/
import Derived.Test.YtpfgdpffgdengaaGreatM
import Derived.Test.YtpfgdpffgdengaaGreatLoop
set_option linter.unusedVariables false
namespace Go.Proofs.YtpfgdpffgdengaaGreat

abbrev Wd (a : Int) : Prop := 0 ≤ a ∧ a < 4294967296
def sgn (a : Int) : Int := if 2147483648 ≤ a then a - 4294967296 else a
theorem sgn_rg {a : Int} (h : Wd a) : -2147483648 ≤ sgn a ∧ sgn a < 2147483648 := by unfold sgn; split <;> omega
theorem wu32 (n : Int) : IntKind.wrap .u32 n = n % 4294967296 := by
  simp only [IntKind.wrap, IntKind.signed, IntKind.bits]
  simp
theorem wi32 {a : Int} (h : Wd a) : IntKind.wrap .i32 a = sgn a := by
  simp only [IntKind.wrap, IntKind.signed, IntKind.bits]
  unfold sgn
  have : a % 4294967296 = a := by omega
  simp [this]
theorem Signed_eq {a : Int} (h : Wd a) : ref01_Signed a = some (sgn a) := by
  unfold ref01_Signed sgn
  rw [w64 (x := a) (by omega), w64 (by omega)]
  by_cases hh : 2147483648 ≤ a <;> simp [hh]
theorem tmodW (n : Int) : Int.tmod n 4294967296 = if 0 ≤ n then n % 4294967296 else -((-n) % 4294967296) := by
  split
  · rename_i h; exact Int.tmod_eq_emod_of_nonneg h
  · rename_i h
    have : n = -(-n) := by omega
    rw [this, Int.neg_tmod, Int.tmod_eq_emod_of_nonneg (by omega)]
    simp
theorem Cut_eq {n : Int} (h : -9223372036854775808 ≤ n ∧ n < 9223372036854775808) : ref01_Cut n = some (n % 4294967296) := by
  unfold ref01_Cut jn
  simp only [tmodW, wu32]
  split
  · rename_i hn
    rw [df (by omega), cond_false]
    congr 1; omega
  · rename_i hn
    by_cases hz : (-n) % 4294967296 = 0
    · rw [df (by omega), cond_false]
      congr 1; omega
    · rw [dt (by omega), cond_true, w64 (by omega)]
      congr 1; omega
theorem Add_eq {a b : Int} (ha : Wd a) (hb : Wd b) : ref01_Add a b = some ((a + b) % 4294967296) := by
  unfold ref01_Add
  rw [w64 (x := a) (by omega), w64 (x := b) (by omega), w64 (by omega), Cut_eq (by omega)]
  rfl
theorem Sub_eq {a b : Int} (ha : Wd a) (hb : Wd b) : ref01_Sub a b = some ((a - b) % 4294967296) := by
  unfold ref01_Sub
  rw [w64 (x := a) (by omega), w64 (x := b) (by omega), w64 (by omega), Cut_eq (by omega)]
  rfl
theorem mul_bd {x y m : Int} (hx : 0 ≤ x ∧ x ≤ m) (hy : 0 ≤ y ∧ y ≤ m) : 0 ≤ x * y ∧ x * y ≤ m * m := ⟨Int.mul_nonneg hx.1 hy.1, Int.mul_le_mul hx.2 hy.2 hy.1 (by omega)⟩
theorem Mul_eq {a b : Int} (ha : Wd a) (hb : Wd b) : ref01_Mul a b = some ((a * b) % 4294967296) := by
  unfold ref01_Mul ref01_half
  simp only [Option.bind_some]
  rw [w64 (x := a) (by omega), w64 (x := b) (by omega), Int.tmod_eq_emod_of_nonneg ha.1, Int.tmod_eq_emod_of_nonneg hb.1, Int.tdiv_eq_ediv_of_nonneg ha.1, Int.tdiv_eq_ediv_of_nonneg hb.1, w64 (x := a / 65536) (by omega), w64 (x := b / 65536) (by omega)]
  obtain ⟨al, hal⟩ : ∃ x, x = a % 65536 := ⟨_, rfl⟩
  obtain ⟨ah, hah⟩ : ∃ x, x = a / 65536 := ⟨_, rfl⟩
  obtain ⟨bl, hbl⟩ : ∃ x, x = b % 65536 := ⟨_, rfl⟩
  obtain ⟨bh, hbh⟩ : ∃ x, x = b / 65536 := ⟨_, rfl⟩
  have hab : a * b = 4294967296 * (ah * bh) + 65536 * (ah * bl + al * bh) + al * bl := by
    have e1 : a = 65536 * ah + al := by omega
    have e2 : b = 65536 * bh + bl := by omega
    rw [e1, e2]
    simp only [Int.add_mul, Int.mul_add]
    have : (65536 * ah) * (65536 * bh) = 4294967296 * (ah * bh) := by rw [Int.mul_assoc, ← Int.mul_assoc ah, Int.mul_comm ah 65536, Int.mul_assoc 65536 ah, ← Int.mul_assoc]; rfl
    have e3 : 65536 * ah * bl = 65536 * (ah * bl) := Int.mul_assoc _ _ _
    have e4 : al * (65536 * bh) = 65536 * (al * bh) := by rw [← Int.mul_assoc, Int.mul_comm al 65536, Int.mul_assoc]
    rw [this, e3, e4]
    omega
  rw [hab, ← hal, ← hah, ← hbl, ← hbh]
  have b1 := mul_bd (x := al) (y := bl) (m := 65535) (by omega) (by omega)
  have b2 := mul_bd (x := ah) (y := bl) (m := 65535) (by omega) (by omega)
  have b3 := mul_bd (x := al) (y := bh) (m := 65535) (by omega) (by omega)
  clear hab hal hah hbl hbh
  generalize al * bl = p at *
  generalize ah * bl = q at *
  generalize al * bh = r at *
  generalize ah * bh = t at *
  rw [w64 (x := p) (by omega), w64 (x := q) (by omega), w64 (x := r) (by omega), Int.tdiv_eq_ediv_of_nonneg b1.1, w64 (x := p / 65536) (by omega), w64 (x := q + p / 65536) (by omega), Int.tmod_eq_emod_of_nonneg (a := q + p / 65536) (by omega), w64 (x := r + (q + p / 65536) % 65536) (by omega), Int.tmod_eq_emod_of_nonneg (a := r + (q + p / 65536) % 65536) (by omega), Int.tmod_eq_emod_of_nonneg b1.1, w64 (x := (r + (q + p / 65536) % 65536) % 65536 * 65536) (by omega), w64 (by omega), wu32]
  congr 1
  omega
theorem abs_eq {x : Int} (h : -2147483648 ≤ x ∧ x < 2147483648) : ref01_abs x = some (if x < 0 then -x else x) := by
  unfold ref01_abs
  rw [w64 (by omega)]
  by_cases hh : x < 0 <;> simp [hh]
theorem tdiv_abs {x y : Int} (hy : y ≠ 0) : Int.tdiv x y = if (x < 0 ∧ 0 < y) ∨ (0 < x ∧ y < 0) then -(Int.tdiv (if x < 0 then -x else x) (if y < 0 then -y else y)) else Int.tdiv (if x < 0 then -x else x) (if y < 0 then -y else y) := by
  by_cases h1 : x < 0 <;> by_cases h2 : y < 0
  · rw [if_neg (by omega), if_pos h1, if_pos h2]; simp
  · rw [if_pos (by omega), if_pos h1, if_neg h2]; simp
  · by_cases h3 : 0 < x
    · rw [if_pos (by omega), if_neg h1, if_pos h2]; simp
    · have : x = 0 := by omega
      subst this
      simp
  · rw [if_neg (by omega), if_neg h1, if_neg h2]
theorem tdiv_bd {x y : Int} (hx : -2147483648 ≤ x ∧ x < 2147483648) (hy : y ≠ 0) : 0 ≤ Int.tdiv (if x < 0 then -x else x) (if y < 0 then -y else y) ∧ Int.tdiv (if x < 0 then -x else x) (if y < 0 then -y else y) ≤ 2147483648 := by
  have hx' : 0 ≤ (if x < 0 then -x else x) ∧ (if x < 0 then -x else x) ≤ 2147483648 := by split <;> omega
  have hy' : 0 < (if y < 0 then -y else y) := by split <;> omega
  generalize (if x < 0 then -x else x) = u at *
  generalize (if y < 0 then -y else y) = v at *
  rw [Int.tdiv_eq_ediv_of_nonneg hx'.1]
  exact ⟨Int.ediv_nonneg hx'.1 (by omega), Int.le_trans (Int.ediv_le_self _ hx'.1) hx'.2⟩
theorem Div_ref {a b : Int} (ha : Wd a) (hb : Wd b) (h0 : b ≠ 0) : ref01_Div a b = some (Int.tdiv (sgn a) (sgn b) % 4294967296) := by
  have hx := sgn_rg ha
  have hy := sgn_rg hb
  have hy0 : sgn b ≠ 0 := by unfold sgn; split <;> omega
  unfold ref01_Div
  rw [Signed_eq ha, Signed_eq hb]
  simp only [Option.bind_some]
  rw [show (sgn b == 0) = false by simpa using hy0, cond_false, abs_eq hx, abs_eq hy]
  simp only [Option.bind_some]
  rw [show nz (if sgn b < 0 then -sgn b else sgn b) = some () by unfold nz; rw [if_neg (by split <;> omega)]]
  simp only [Option.bind_some, jn]
  have hbd := tdiv_bd hx hy0
  rw [tdiv_abs (x := sgn a) hy0]
  generalize Int.tdiv (if sgn a < 0 then -sgn a else sgn a) (if sgn b < 0 then -sgn b else sgn b) = q at *
  rw [w64 (x := q) (by omega), w64 (x := 0 - q) (by omega), Cut_eq (n := q) (by omega), Cut_eq (n := 0 - q) (by omega)]
  simp only [Option.bind_some]
  have e : 0 - q = -q := by omega
  rw [e]
  by_cases h1 : sgn a < 0
  · have h1' : ¬ 0 < sgn a := by omega
    by_cases h2 : 0 < sgn b <;> simp [h1, h1', h2]
  · by_cases h2 : 0 < sgn a
    · by_cases h3 : sgn b < 0 <;> simp [h1, h2, h3]
    · simp [h1, h2]
theorem Rem_ref {a b : Int} (ha : Wd a) (hb : Wd b) (h0 : b ≠ 0) : ref01_Rem a b = some (Int.tmod (sgn a) (sgn b) % 4294967296) := by
  have hx := sgn_rg ha
  have hy := sgn_rg hb
  have hy0 : sgn b ≠ 0 := by unfold sgn; split <;> omega
  unfold ref01_Rem
  rw [Signed_eq ha, Signed_eq hb]
  simp only [Option.bind_some]
  rw [show (sgn b == 0) = false by simpa using hy0, cond_false, abs_eq hx, abs_eq hy]
  simp only [Option.bind_some]
  rw [show nz (if sgn b < 0 then -sgn b else sgn b) = some () by unfold nz; rw [if_neg (by split <;> omega)]]
  simp only [Option.bind_some, jn]
  have hm : Int.tmod (sgn a) (sgn b) = if sgn a < 0 then -(Int.tmod (if sgn a < 0 then -sgn a else sgn a) (if sgn b < 0 then -sgn b else sgn b)) else Int.tmod (if sgn a < 0 then -sgn a else sgn a) (if sgn b < 0 then -sgn b else sgn b) := by
    by_cases h1 : sgn a < 0 <;> by_cases h2 : sgn b < 0 <;> simp [h1, h2]
  have hbd : 0 ≤ Int.tmod (if sgn a < 0 then -sgn a else sgn a) (if sgn b < 0 then -sgn b else sgn b) ∧ Int.tmod (if sgn a < 0 then -sgn a else sgn a) (if sgn b < 0 then -sgn b else sgn b) < 4294967296 := by
    have h1 : 0 ≤ (if sgn a < 0 then -sgn a else sgn a) := by split <;> omega
    have h2 : 0 < (if sgn b < 0 then -sgn b else sgn b) ∧ (if sgn b < 0 then -sgn b else sgn b) ≤ 2147483648 := by split <;> omega
    rw [Int.tmod_eq_emod_of_nonneg h1]
    exact ⟨Int.emod_nonneg _ (by omega), Int.lt_trans (Int.emod_lt_of_pos _ h2.1) (by omega)⟩
  rw [hm]
  generalize Int.tmod (if sgn a < 0 then -sgn a else sgn a) (if sgn b < 0 then -sgn b else sgn b) = q at *
  rw [w64 (x := 0 - q) (by omega), Cut_eq (n := q) (by omega), Cut_eq (n := 0 - q) (by omega)]
  simp only [Option.bind_some]
  have e : 0 - q = -q := by omega
  rw [e]
  by_cases h1 : sgn a < 0 <;> simp [h1]
theorem pw_eq {b : Int} (hb : Wd b) : ref01_power b = some ((2 : Int) ^ (b.toNat % 32)) := by
  unfold ref01_power
  have hm : Int.tmod b 32 = ((b.toNat % 32 : Nat) : Int) := by rw [Int.tmod_eq_emod_of_nonneg hb.1]; omega
  rw [hm, w64 (by omega)]
  generalize hn : b.toNat % 32 = n
  have hn32 : n < 32 := by omega
  have key : ∀ k, k < 32 → (2 : Int) ^ k ≤ 2147483648 ∧ 0 < (2 : Int) ^ k := by decide
  refine run_bind (fun k => ((2 : Int) ^ k, (k : Int))) n (.brk ((2 : Int) ^ n, (n : Int))) rfl (by omega) (fun k hk => ?_) ?_ trivial rfl
  · simp only
    obtain ⟨h1, h2⟩ := key k (by omega)
    rw [dlt hk, cond_true, w64 (by omega), w64 (by omega)]
    rw [show (2 : Int) * 2 ^ k = 2 ^ (k + 1) by rw [Int.pow_succ, Int.mul_comm]]
    rfl
  · simp only
    rw [dge n, cond_false]
theorem bv32 {a : Nat} (h : a < 4294967296) : (BitVec.ofInt 32 (a : Int)).toNat = a := by
  rw [BitVec.ofInt_natCast, BitVec.toNat_ofNat]; exact Nat.mod_eq_of_lt h
theorem and31 {b : Int} (hb : Wd b) : bits .and .u32 b 31 = ((b.toNat % 32 : Nat) : Int) := by
  obtain ⟨m, rfl⟩ : ∃ m : Nat, b = m := ⟨b.toNat, by omega⟩
  show IntKind.u32.wrap ((BitVec.ofInt 32 (m : Int) &&& BitVec.ofInt 32 ((31 : Nat) : Int)).toNat : Int) = _
  rw [BitVec.toNat_and, bv32 (by omega), bv32 (by omega), show (31 : Nat) = 2 ^ 5 - 1 from rfl, Nat.and_two_pow_sub_one_eq_mod, w32u (by omega)]
  simp
theorem pw_bd : ∀ k, k < 32 → (2 : Int) ^ k ≤ 2147483648 ∧ 0 < (2 : Int) ^ k ∧ 4294967296 / (2 : Int) ^ k * 2 ^ k = 4294967296 ∧ 1 ≤ 4294967296 / (2 : Int) ^ k := by decide
theorem Left_ref {a b : Int} (ha : Wd a) (hb : Wd b) : ref01_Left a b = some (a * 2 ^ (b.toNat % 32) % 4294967296) := by
  unfold ref01_Left
  rw [pw_eq hb]
  obtain ⟨h1, h2, h3, h4⟩ := pw_bd (b.toNat % 32) (by omega)
  generalize (2 : Int) ^ (b.toNat % 32) = p at *
  simp only [Option.bind_some]
  have hq : 4294967296 / p ≤ 4294967296 := Int.ediv_le_self _ (by omega)
  rw [show nz p = some () by unfold nz; rw [if_neg (by omega)], Int.tdiv_eq_ediv_of_nonneg (by omega), w64 (x := 4294967296 / p) (by omega), show nz (4294967296 / p) = some () by unfold nz; rw [if_neg (by omega)]]
  simp only [Option.bind_some]
  rw [w64 (x := a) (by omega), Int.tmod_eq_emod_of_nonneg ha.1]
  have hmul : a % (4294967296 / p) * p = a * p % 4294967296 := by
    have := Int.mul_emod_mul_of_pos a (4294967296 / p) h2
    rw [Int.mul_comm p a, Int.mul_comm p (4294967296 / p), h3, Int.mul_comm p] at this
    exact this.symm
  rw [hmul, w64 (by omega), Cut_eq (by omega)]
  simp
theorem fl_eq {x p : Int} (hp : 0 < p) : x / p = if x < 0 then (if Int.tdiv x p * p ≠ x then Int.tdiv x p - 1 else Int.tdiv x p) else Int.tdiv x p := by
  by_cases hx : x < 0
  · rw [if_pos hx]
    have e : x = -(-x) := by omega
    have ht : Int.tdiv x p = -((-x) / p) := by rw [e, Int.neg_tdiv, Int.tdiv_eq_ediv_of_nonneg (by omega)]; simp
    rw [ht]
    have hd := Int.mul_ediv_add_emod (-x) p
    have hr := Int.emod_nonneg (-x) (show p ≠ 0 by omega)
    have hl := Int.emod_lt_of_pos (-x) hp
    generalize (-x) / p = k at *
    generalize (-x) % p = r at *
    have hkp : -k * p = -(p * k) := by rw [Int.neg_mul, Int.mul_comm]
    by_cases h0 : -k * p = x
    · rw [if_neg (by simpa using h0)]
      refine ((Int.ediv_emod_unique hp (r := 0)).2 ⟨?_, by omega, hp⟩).1
      rw [Int.mul_comm]; omega
    · rw [if_pos h0]
      refine ((Int.ediv_emod_unique hp (r := p - r)).2 ⟨?_, by omega, by omega⟩).1
      rw [Int.mul_sub, Int.mul_comm p (-k)]; omega
  · rw [if_neg hx, Int.tdiv_eq_ediv_of_nonneg (by omega)]
theorem RightS_ref {a b : Int} (ha : Wd a) (hb : Wd b) : ref01_RightS a b = some ((sgn a / 2 ^ (b.toNat % 32)) % 4294967296) := by
  unfold ref01_RightS
  rw [pw_eq hb, Signed_eq ha]
  obtain ⟨h1, h2, _, _⟩ := pw_bd (b.toNat % 32) (by omega)
  generalize (2 : Int) ^ (b.toNat % 32) = p at *
  have hx := sgn_rg ha
  simp only [Option.bind_some]
  rw [show nz p = some () by unfold nz; rw [if_neg (by omega)]]
  simp only [Option.bind_some, jn]
  have hq : -2147483648 ≤ Int.tdiv (sgn a) p ∧ Int.tdiv (sgn a) p ≤ 2147483648 := by
    have := tdiv_bd hx (y := p) (by omega)
    rw [tdiv_abs (x := sgn a) (y := p) (by omega)]
    split <;> omega
  have hqp : -2147483648 ≤ Int.tdiv (sgn a) p * p ∧ Int.tdiv (sgn a) p * p ≤ 2147483648 := by
    by_cases hs : sgn a < 0
    · have e : sgn a = -(-sgn a) := by omega
      have ht : Int.tdiv (sgn a) p = -((-sgn a) / p) := by rw [e, Int.neg_tdiv, Int.tdiv_eq_ediv_of_nonneg (by omega)]; simp
      have hd := Int.mul_ediv_add_emod (-sgn a) p
      have hr := Int.emod_nonneg (-sgn a) (show p ≠ 0 by omega)
      have hl := Int.emod_lt_of_pos (-sgn a) h2
      have hkk := Int.mul_nonneg (show 0 ≤ p by omega) (Int.ediv_nonneg (show 0 ≤ -sgn a by omega) (show 0 ≤ p by omega))
      rw [ht, Int.neg_mul, Int.mul_comm]
      omega
    · have hd := Int.mul_ediv_add_emod (sgn a) p
      have hr := Int.emod_nonneg (sgn a) (show p ≠ 0 by omega)
      have hl := Int.emod_lt_of_pos (sgn a) h2
      have hkk := Int.mul_nonneg (show 0 ≤ p by omega) (Int.ediv_nonneg (show 0 ≤ sgn a by omega) (show 0 ≤ p by omega))
      rw [Int.tdiv_eq_ediv_of_nonneg (by omega), Int.mul_comm]
      omega
  rw [fl_eq (x := sgn a) h2]
  rw [w64 (x := Int.tdiv (sgn a) p) (by omega), w64 (x := Int.tdiv (sgn a) p * p) (by omega), w64 (x := Int.tdiv (sgn a) p - 1) (by omega), Cut_eq (n := Int.tdiv (sgn a) p) (by omega), Cut_eq (n := Int.tdiv (sgn a) p - 1) (by omega)]
  simp only [Option.bind_some]
  by_cases hs : sgn a < 0
  · by_cases hz : Int.tdiv (sgn a) p * p = sgn a
    · simp [hs, hz]
    · rw [show (Int.tdiv (sgn a) p * p != sgn a) = true by simpa using hz]
      simp [hs, hz]
  · simp [hs]
theorem not_eq {a : Int} (ha : Wd a) : bits .xor .u32 (if IntKind.signed .u32 then -1 else IntKind.max .u32) a = 4294967295 - a := by
  obtain ⟨m, rfl⟩ : ∃ m : Nat, a = m := ⟨a.toNat, by omega⟩
  show IntKind.u32.wrap ((BitVec.ofInt 32 4294967295 ^^^ BitVec.ofInt 32 (m : Int)).toNat : Int) = _
  rw [show BitVec.ofInt 32 4294967295 = BitVec.allOnes 32 by decide +kernel, BitVec.allOnes_xor, BitVec.toNat_not, bv32 (by omega), w32u (by omega)]
  omega

/-! The functions of words. -/
theorem wsig {a : Int} (h : Wd a) : IntKind.wrap .i64 (IntKind.wrap .i32 a) = sgn a := by
  have := sgn_rg h
  rw [wi32 h, w64 (by omega)]
theorem wDiv {a b : Int} (ha : Wd a) (hb : Wd b) (h0 : b ≠ 0) : word_Div a b = some (Int.tdiv (sgn a) (sgn b) % 4294967296) := by
  have hx := sgn_rg ha
  have hy0 : sgn b ≠ 0 := by unfold sgn; split <;> omega
  have hq : -2147483648 ≤ Int.tdiv (sgn a) (sgn b) ∧ Int.tdiv (sgn a) (sgn b) ≤ 2147483648 := by
    have := tdiv_bd hx hy0
    rw [tdiv_abs (x := sgn a) hy0]
    split <;> omega
  unfold word_Div word_signed word_Div_1
  rw [show (b == 0) = false by simpa using h0, cond_false, wsig ha, wsig hb, show nz (sgn b) = some () by unfold nz; rw [if_neg hy0]]
  simp only [Option.bind_some]
  rw [w64 (by omega), wu32]
theorem wRem {a b : Int} (ha : Wd a) (hb : Wd b) (h0 : b ≠ 0) : word_Rem a b = some (Int.tmod (sgn a) (sgn b) % 4294967296) := by
  have hy0 : sgn b ≠ 0 := by unfold sgn; split <;> omega
  unfold word_Rem word_signed_2 word_Rem_1
  rw [show (b == 0) = false by simpa using h0, cond_false, wsig ha, wsig hb, show nz (sgn b) = some () by unfold nz; rw [if_neg hy0]]
  simp only [Option.bind_some]
  rw [wu32]
theorem wLeft {a b : Int} (ha : Wd a) (hb : Wd b) : word_Left a b = some (a * 2 ^ (b.toNat % 32) % 4294967296) := by
  unfold word_Left nn
  rw [and31 hb, if_pos (by omega)]
  simp only [Option.bind_some, Int.toNat_natCast]
  rw [show min (b.toNat % 32) (IntKind.bits .u32) = b.toNat % 32 from Nat.min_eq_left (by show _ ≤ 32; omega), wu32]
theorem wRightS {a b : Int} (ha : Wd a) (hb : Wd b) : word_RightS a b = some ((sgn a / 2 ^ (b.toNat % 32)) % 4294967296) := by
  unfold word_RightS nn
  rw [and31 hb, if_pos (by omega)]
  simp only [Option.bind_some, Int.toNat_natCast]
  obtain ⟨h1, h2, _, _⟩ := pw_bd (b.toNat % 32) (by omega)
  rw [show min (b.toNat % 32) (IntKind.bits .i32) = b.toNat % 32 from Nat.min_eq_left (by show _ ≤ 32; omega), wu32, wi32 ha, Int.fdiv_eq_ediv_of_nonneg _ (by omega)]
def b2 (b : Bool) : Int := bif b then 1 else 0
theorem cbit (b : Bool) : check_bit b = some (b2 b) := by cases b <;> rfl
theorem truth (b : Bool) : ref10_truth b = some (b2 b) := by cases b <;> rfl
theorem wLess {a b : Int} (ha : Wd a) (hb : Wd b) : word_Less a b = some (b2 (decide (sgn a < sgn b))) := by
  unfold word_Less word_bit
  rw [wi32 ha, wi32 hb]
  by_cases h : sgn a < sgn b <;> simp [h, b2]
theorem sgn_inj {a b : Int} (ha : Wd a) (hb : Wd b) : (sgn a == sgn b) = (a == b) := by
  by_cases h : a = b
  · subst h; simp
  · have : sgn a ≠ sgn b := by unfold sgn; split <;> split <;> omega
    rw [show (sgn a == sgn b) = false by simpa using this, show (a == b) = false by simpa using h]
/-- A function of words, or the error. -/
theorem apply_law {fn a b : Int} (ha : Wd a) (hb : Wd b) : ∃ y, check_Apply fn a b = some y ∧ ref10_Apply fn a b = some y ∧ Wd y.1 := by
  have h0 : Wd 0 := by decide
  have hf : Wd 4294967295 := by decide
  have wb : ∀ c : Bool, Wd (b2 c) := by decide
  have wm : ∀ x : Int, Wd (x % 4294967296) := fun x => ⟨Int.emod_nonneg _ (by omega), Int.emod_lt_of_pos _ (by omega)⟩
  have wbt : ∀ op x y, Wd (bits op .u32 x y) → True := fun _ _ _ _ => trivial
  by_cases hz : (fn = 4 ∨ fn = 5) ∧ b = 0
  · refine ⟨(0, 11), ?_, ?_, h0⟩
    · obtain ⟨rfl | rfl, rfl⟩ := hz <;> simp [check_Apply, jn]
    · unfold ref10_Apply
      rw [Signed_eq ha, Signed_eq hb]
      obtain ⟨rfl | rfl, rfl⟩ := hz <;> simp
  · have hdr : ∃ D R, ref01_Div a b = some D ∧ ref01_Rem a b = some R ∧ (b ≠ 0 → word_Div a b = some D ∧ word_Rem a b = some R ∧ Wd D ∧ Wd R) := by
      by_cases hb0 : b = 0
      · subst hb0
        refine ⟨4294967295, a, ?_, ?_, fun h => absurd rfl h⟩
        · unfold ref01_Div; rw [Signed_eq ha, Signed_eq hb]; rfl
        · unfold ref01_Rem; rw [Signed_eq ha, Signed_eq hb]; rfl
      · exact ⟨_, _, Div_ref ha hb hb0, Rem_ref ha hb hb0, fun _ => ⟨wDiv ha hb hb0, wRem ha hb hb0, wm _, wm _⟩⟩
    obtain ⟨D, R, hD, hR, hDR⟩ := hdr
    have hnb : (fn = 4 ∨ fn = 5) → b ≠ 0 := fun h h' => hz ⟨h, h'⟩
    -- the document's answer
    obtain ⟨L, hL⟩ : ∃ L : List Int, L = [0, (a + b) % 4294967296, (a - b) % 4294967296, a * b % 4294967296, D, R, bits .and .u32 a b, bits .or .u32 a b, bits .xor .u32 a b, a * 2 ^ (b.toNat % 32) % 4294967296, (sgn a / 2 ^ (b.toNat % 32)) % 4294967296, b2 (sgn a == sgn b), b2 (sgn a != sgn b), b2 (decide (sgn a < sgn b)), b2 (decide (sgn b < sgn a)), b2 (decide (sgn a ≤ sgn b)), b2 (decide (sgn b ≤ sgn a)), (0 - a) % 4294967296, (4294967295 - a) % 4294967296, b2 (a == 0)] := ⟨_, rfl⟩
    have hlen : L.length = 20 := by rw [hL]; rfl
    have href : ref10_Apply fn a b = bif decide (fn < 1) then some (0, 1) else bif decide ((L.length : Int) ≤ fn) then some (0, 1) else (idx L fn).bind fun u => some (u, 0) := by
      unfold ref10_Apply
      rw [Signed_eq ha, Signed_eq hb, Add_eq ha hb, Sub_eq ha hb, Mul_eq ha hb, hD, hR, Left_ref ha hb, RightS_ref ha hb, Sub_eq h0 ha, Sub_eq hf ha]
      simp only [Option.bind_some, truth]
      rw [← hL]
      by_cases h4 : fn = 4
      · have := hnb (.inl h4)
        rw [show (fn == 4) = true by simpa using h4, cond_true, show (b == 0) = false by simpa using this, cond_false]
      · rw [show (fn == 4) = false by simpa using h4, cond_false]
        by_cases h5 : fn = 5
        · have := hnb (.inr h5)
          rw [show (fn == 5) = true by simpa using h5, cond_true, show (b == 0) = false by simpa using this, cond_false]
        · rw [show (fn == 5) = false by simpa using h5, cond_false]
    have hin : ∀ k : Nat, 1 ≤ k → k < 20 → fn = (k : Int) → ref10_Apply fn a b = (L[k]?).bind fun u => some (u, 0) := by
      intro k h1 h2 he
      rw [href, hlen, df (by omega), cond_false, df (by omega), cond_false, idx_nat (by omega), he]
      rfl
    have wbit : ∀ (op : BinOp) (x y : Int), op = .and ∨ op = .or ∨ op = .xor → Wd (bits op .u32 x y) := by
      intro op x y hop
      have : ∃ n : Int, bits op .u32 x y = IntKind.wrap .u32 n := by rcases hop with rfl | rfl | rfl <;> exact ⟨_, rfl⟩
      obtain ⟨n, hn⟩ := this
      rw [hn, wu32]
      exact wm n
    have hcases : fn = 1 ∨ fn = 2 ∨ fn = 3 ∨ fn = 4 ∨ fn = 5 ∨ fn = 6 ∨ fn = 7 ∨ fn = 8 ∨ fn = 9 ∨ fn = 10 ∨ fn = 11 ∨ fn = 12 ∨ fn = 13 ∨ fn = 14 ∨ fn = 15 ∨ fn = 16 ∨ fn = 17 ∨ fn = 18 ∨ fn = 19 ∨ (fn < 1 ∨ 20 ≤ fn) := by omega
    have hle : ∀ x y : Int, 1 - b2 (decide (y < x)) = b2 (decide (x ≤ y)) ∧ 0 ≤ 1 - b2 (decide (y < x)) ∧ 1 - b2 (decide (y < x)) < 4294967296 := by
      intro x y
      by_cases h : y < x
      · have : ¬ x ≤ y := by omega
        simp [h, this, b2]
      · have : x ≤ y := by omega
        simp [h, this, b2]
    rcases hcases with rfl | rfl | rfl | rfl | rfl | rfl | rfl | rfl | rfl | rfl | rfl | rfl | rfl | rfl | rfl | rfl | rfl | rfl | rfl | hout
    · rw [hin 1 (by omega) (by omega) rfl, hL]; exact ⟨_, by simp only [check_Apply, word_Add, wu32]; rfl, rfl, wm _⟩
    · rw [hin 2 (by omega) (by omega) rfl, hL]; exact ⟨_, by simp only [check_Apply, word_Sub, wu32]; rfl, rfl, wm _⟩
    · rw [hin 3 (by omega) (by omega) rfl, hL]; exact ⟨_, by simp only [check_Apply, word_Mul, wu32]; rfl, rfl, wm _⟩
    · rw [hin 4 (by omega) (by omega) rfl, hL]
      have hb0 := hnb (.inl rfl)
      exact ⟨(D, 0), by simp [check_Apply, jn, show (b == 0) = false by simpa using hb0, (hDR hb0).1], rfl, (hDR hb0).2.2.1⟩
    · rw [hin 5 (by omega) (by omega) rfl, hL]
      have hb0 := hnb (.inr rfl)
      exact ⟨(R, 0), by simp [check_Apply, jn, show (b == 0) = false by simpa using hb0, (hDR hb0).2.1], rfl, (hDR hb0).2.2.2⟩
    · rw [hin 6 (by omega) (by omega) rfl, hL]; exact ⟨_, by simp [check_Apply, jn], rfl, wbit .and a b (.inl rfl)⟩
    · rw [hin 7 (by omega) (by omega) rfl, hL]; exact ⟨_, by simp [check_Apply, jn], rfl, wbit .or a b (.inr (.inl rfl))⟩
    · rw [hin 8 (by omega) (by omega) rfl, hL]; exact ⟨_, by simp [check_Apply, jn], rfl, wbit .xor a b (.inr (.inr rfl))⟩
    · rw [hin 9 (by omega) (by omega) rfl, hL]; exact ⟨(a * 2 ^ (b.toNat % 32) % 4294967296, 0), by simp [check_Apply, jn, wLeft ha hb], rfl, wm _⟩
    · rw [hin 10 (by omega) (by omega) rfl, hL]; exact ⟨((sgn a / 2 ^ (b.toNat % 32)) % 4294967296, 0), by simp [check_Apply, jn, wRightS ha hb], rfl, wm _⟩
    · rw [hin 11 (by omega) (by omega) rfl, hL]; exact ⟨(b2 (sgn a == sgn b), 0), by simp [check_Apply, check_compare, jn, cbit, sgn_inj ha hb], rfl, wb _⟩
    · rw [hin 12 (by omega) (by omega) rfl, hL]; exact ⟨(b2 (sgn a != sgn b), 0), by simp [check_Apply, check_compare, jn, cbit, bne, sgn_inj ha hb], rfl, wb _⟩
    · rw [hin 13 (by omega) (by omega) rfl, hL]; exact ⟨(b2 (decide (sgn a < sgn b)), 0), by simp [check_Apply, check_compare, jn, wLess ha hb], rfl, wb _⟩
    · rw [hin 14 (by omega) (by omega) rfl, hL]; exact ⟨(b2 (decide (sgn b < sgn a)), 0), by simp [check_Apply, check_compare, jn, wLess hb ha], rfl, wb _⟩
    · rw [hin 15 (by omega) (by omega) rfl, hL]
      obtain ⟨e1, e2⟩ := hle (sgn a) (sgn b)
      exact ⟨(b2 (decide (sgn a ≤ sgn b)), 0), by simp [check_Apply, check_compare, jn, wLess hb ha, e1, w32u (wb _)], rfl, wb _⟩
    · rw [hin 16 (by omega) (by omega) rfl, hL]
      obtain ⟨e1, e2⟩ := hle (sgn b) (sgn a)
      exact ⟨(b2 (decide (sgn b ≤ sgn a)), 0), by simp [check_Apply, check_compare, jn, wLess ha hb, e1, w32u (wb _)], rfl, wb _⟩
    · rw [hin 17 (by omega) (by omega) rfl, hL]; exact ⟨((0 - a) % 4294967296, 0), by simp [check_Apply, jn, word_Sub, wu32], rfl, wm _⟩
    · rw [hin 18 (by omega) (by omega) rfl, hL]; exact ⟨((4294967295 - a) % 4294967296, 0), by
        have e : (4294967295 - a) % 4294967296 = 4294967295 - a := by omega
        rw [e, ← not_eq ha]; simp [check_Apply, jn], rfl, wm _⟩
    · rw [hin 19 (by omega) (by omega) rfl, hL]; exact ⟨(b2 (a == 0), 0), by simp [check_Apply, jn, cbit], rfl, wb _⟩
    · refine ⟨(0, 1), ?_, ?_, h0⟩
      · have n : ∀ k : Int, 1 ≤ k → k < 20 → (fn == k) = false := fun k h1 h2 => by simp; omega
        simp only [check_Apply, check_compare, jn, n 1 (by omega) (by omega), n 2 (by omega) (by omega), n 3 (by omega) (by omega), n 4 (by omega) (by omega), n 5 (by omega) (by omega), n 6 (by omega) (by omega), n 7 (by omega) (by omega), n 8 (by omega) (by omega), n 9 (by omega) (by omega), n 10 (by omega) (by omega), n 11 (by omega) (by omega), n 12 (by omega) (by omega), n 13 (by omega) (by omega), n 14 (by omega) (by omega), n 15 (by omega) (by omega), n 16 (by omega) (by omega), n 17 (by omega) (by omega), n 18 (by omega) (by omega), n 19 (by omega) (by omega), cond_false, Option.bind_some]
      · rw [href, hlen]
        by_cases h1 : fn < 1
        · rw [dt h1]; rfl
        · rw [df h1, cond_false, dt (by omega)]; rfl
theorem CheckApplies_law {fn a b : Int} (ha : Wd a) (hb : Wd b) : law10_CheckApplies fn a b = some true := by
  obtain ⟨y, h1, h2, _⟩ := apply_law (fn := fn) ha hb
  unfold law10_CheckApplies law10_awake
  rw [h1, h2]
  simp
end Go.Proofs.YtpfgdpffgdengaaGreat
