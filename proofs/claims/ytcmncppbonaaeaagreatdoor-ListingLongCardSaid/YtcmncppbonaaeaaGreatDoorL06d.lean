/- Plain laws on hexadecimal numbers: how they are written, and read back. No program is in sight here. -/
import Derived.Test.YtcmncppbonaaeaaGreatDoorL06c
set_option linter.unusedVariables false
namespace Go.Proofs.YtcmncppbonaaeaaGreatDoor

def d16 (k : Nat) : UInt8 := if k < 10 then UInt8.ofNat (48 + k) else UInt8.ofNat (87 + k)
/-- The last k digits. -/
def hexK : Nat → Nat → List UInt8
  | 0, _ => []
  | k + 1, n => hexK k (n / 16) ++ [d16 (n % 16)]
/-- The digits, without zeros ahead. -/
def hexm (n : Nat) : List UInt8 := if h : n < 16 then [d16 n] else hexm (n / 16) ++ [d16 (n % 16)]
termination_by n
decreasing_by omega
theorem hexK_len : ∀ k n, (hexK k n).length = k
  | 0, _ => rfl
  | k + 1, n => by
    unfold hexK
    rw [List.length_append, hexK_len k]
    rfl
theorem hexK_zero : ∀ k, hexK k 0 = List.replicate k 48
  | 0 => rfl
  | k + 1 => by
    unfold hexK
    rw [List.replicate_succ', show 0 / 16 = 0 from rfl, hexK_zero k]
    rfl
theorem hexm_len (k : Nat) : ∀ n, n < 16 ^ (k + 1) → 1 ≤ (hexm n).length ∧ (hexm n).length ≤ k + 1 := by
  induction k with
  | zero =>
    intro n hn
    rw [hexm, dif_pos (by omega)]
    simp
  | succ k ih =>
    intro n hn
    rw [hexm]
    split
    · simp
    · have := ih (n / 16) (by rw [Nat.pow_succ] at hn; omega)
      rw [List.length_append]
      simp only [List.length_cons, List.length_nil]
      omega
theorem hex_pad : ∀ k n, n < 16 ^ (k + 1) → List.replicate (k + 1 - (hexm n).length) 48 ++ hexm n = hexK (k + 1) n := by
  intro k
  induction k with
  | zero =>
    intro n hn
    rw [hexm, dif_pos (by omega)]
    simp only [hexK]
    rw [Nat.mod_eq_of_lt (by omega)]
    rfl
  | succ k ih =>
    intro n hn
    rw [hexm]
    split
    · rename_i h
      unfold hexK
      rw [show n / 16 = 0 by omega, hexK_zero, Nat.mod_eq_of_lt h]
      rfl
    · rename_i h
      have h1 : n / 16 < 16 ^ (k + 1) := by rw [Nat.pow_succ] at hn; omega
      have := hexm_len k (n / 16) h1
      unfold hexK
      rw [← ih (n / 16) h1, ← List.append_assoc, List.length_append]
      congr 3
      simp only [List.length_cons, List.length_nil]
      omega
theorem d16_36 : ∀ k : _root_.Fin 16, idx ([48, 49, 50, 51, 52, 53, 54, 55, 56, 57, 97, 98, 99, 100, 101, 102, 103, 104, 105, 106, 107, 108, 109, 110, 111, 112, 113, 114, 115, 116, 117, 118, 119, 120, 121, 122] : List UInt8) (k.val : Int) = some (d16 k.val) := by decide +kernel
theorem d16_16 : ∀ k : _root_.Fin 16, sub ([48, 49, 50, 51, 52, 53, 54, 55, 56, 57, 97, 98, 99, 100, 101, 102] : List UInt8) (k.val : Int) (IntKind.wrap .i64 ((k.val : Int) + 1)) = some [d16 k.val] := by decide +kernel
theorem d16_val : ∀ k : _root_.Fin 16, hexVal (d16 k.val) = some k.val := by decide +kernel
theorem wu64 {x : Nat} (h : x < 18446744073709551616) : IntKind.wrap .u64 (x : Int) = (x : Int) := by
  simp only [IntKind.wrap, IntKind.signed, IntKind.bits]
  simp
  omega
theorem and64 (m k : Nat) (hm : m < 2 ^ 64) (hk : k < 64) : bits .and .u64 (m : Int) ((2 ^ k - 1 : Nat) : Int) = ((m % 2 ^ k : Nat) : Int) := by
  have h3 : 2 ^ k < 2 ^ 64 := Nat.pow_lt_pow_right (by omega) hk
  have h1 : (BitVec.ofInt 64 (m : Int)).toNat = m := by
    rw [BitVec.ofInt_natCast, BitVec.toNat_ofNat]; exact Nat.mod_eq_of_lt hm
  have h2 : (BitVec.ofInt 64 ((2 ^ k - 1 : Nat) : Int)).toNat = 2 ^ k - 1 := by
    rw [BitVec.ofInt_natCast, BitVec.toNat_ofNat]; exact Nat.mod_eq_of_lt (by omega)
  show IntKind.u64.wrap ((BitVec.ofInt 64 (m : Int) &&& BitVec.ofInt 64 ((2 ^ k - 1 : Nat) : Int)).toNat : Int) = _
  have := Nat.mod_le m (2 ^ k)
  rw [BitVec.toNat_and, h1, h2, Nat.and_two_pow_sub_one_eq_mod, wu64 (by omega)]
theorem bytes_cons (d : UInt8) (l : List Int) : bytesStr ((d.toNat : Int) :: l) = d :: bytesStr l := by
  simp [bytesStr]
theorem drop_set {l : List Int} {k : Nat} {d : Int} (h : k < l.length) : (l.set k d).drop k = d :: l.drop (k + 1) := by
  rw [List.drop_eq_getElem_cons (by simpa using h), List.getElem_set_self, List.drop_set_of_lt (by omega)]
set_option maxHeartbeats 1000000 in
theorem formatBits_eq (n : Nat) (h : n < 4294967296) : strconv_formatBits [] (n : Int) 16 false false = some ([], hexm n) := by
  unfold strconv_formatBits strconv_isPowerOfTwo bits_TrailingZeros
  simp only [show decide ((16 : Int) < 2) = false from rfl, show ((16 : Int) == 10) = false from rfl, show decide ((36 : Int) < 16) = false from rfl, cond_false, Option.bind_some,
    show ((bits .and .i64 16 (IntKind.wrap .i64 (16 - 1))) == 0) = true by decide +kernel, cond_true, show IntKind.wrap .u64 16 = 16 from rfl, if_true, show IntKind.wrap .u64 (16 - 1) = ((2 ^ 4 - 1 : Nat) : Int) from rfl,
    show (2 : Int) ^ (min (Int.toNat 4) (IntKind.bits .u64)) = 16 from rfl, show IntKind.wrap .u64 4 = 4 from rfl]
  have hlen := hexm_len 7 n (by omega)
  have hx2 : ∀ k : Nat, k ≤ 7 → IntKind.wrap .i64 (((65 - k : Nat) : Int) - 1) = ((64 - k : Nat) : Int) := fun k hk => by rw [w64 (by omega)]; omega
  have stp : ∀ (m : Nat) (x3 : List Int) (k : Nat), m < 16 → k ≤ 7 → x3.length = 65 → [d16 m] ++ bytesStr (x3.drop (65 - k)) = bytesStr ((x3.set (64 - k) ((d16 m).toNat : Int)).drop (64 - k)) := by
    intro m x3 k hm hk hl
    rw [drop_set (by omega), bytes_cons, show 64 - k + 1 = 65 - k by omega]
    rfl
  refine loop_bind (fun s => ∃ (m k : Nat), s.1 = (m : Int) ∧ s.2.1 = ((65 - k : Nat) : Int) ∧ k ≤ 65 ∧ s.2.2.length = 65 ∧ m < 4294967296 ∧ hexm m ++ bytesStr (s.2.2.drop (65 - k)) = hexm n) (fun s => s.1.toNat)
    (fun o => ∃ (m k : Nat) (x3 : List Int), o = .brk ((m : Int), ((65 - k : Nat) : Int), x3) ∧ m < 16 ∧ k ≤ 7 ∧ x3.length = 65 ∧ [d16 m] ++ bytesStr (x3.drop (65 - k)) = hexm n) ?_ (NN_big (by show ((n : Nat) : Int).toNat < _; omega)) ?_ ?_
  · exact ⟨n, 0, rfl, rfl, by omega, by simp, h, by simp [bytesStr]⟩
  · rintro ⟨x1, x2, x3⟩ ⟨m, k, h1, h2, hk0, h3, hm, he⟩
    simp only at h1 h2 h3 he
    subst h1 h2
    have hl2 := hexm_len 7 m (by omega)
    have hk : k ≤ 7 := by
      have := congrArg List.length he
      rw [List.length_append] at this
      have hb : (bytesStr (x3.drop (65 - k))).length = k := by unfold bytesStr; rw [List.length_map, List.length_drop]; omega
      omega
    simp only []
    by_cases h16 : 16 ≤ m
    · rw [c1 (dt (by omega)), and64 m 4 (by omega) (by omega), d16_36 ⟨m % 2 ^ 4, by omega⟩, Option.bind_some]
      unfold lenOk
      rw [if_pos h3, Option.bind_some, hx2 k hk, idx_get (by omega), Option.bind_some, Option.bind_some]
      unfold nn
      rw [if_pos (by omega), Option.bind_some, Int.fdiv_eq_ediv_of_nonneg _ (by omega)]
      refine ⟨_, rfl, ⟨m / 16, k + 1, by simp only; omega, by simp only; omega, by omega, by simpa using h3, by omega, ?_⟩, by simp only; omega⟩
      simp only
      rw [show 65 - (k + 1) = 64 - k by omega, show Int.toNat (((64 - k : Nat) : Int)) = 64 - k by omega, ← stp (m % 2 ^ 4) x3 k (by omega) hk h3, ← he, ← List.append_assoc]
      congr 1
      rw [hexm.eq_1 m, dif_neg (by omega)]
    · rw [c0 (df (by omega))]
      refine ⟨_, rfl, m, k, x3, rfl, by omega, hk, h3, ?_⟩
      rw [hexm, dif_pos (by omega)] at he
      exact he
  · rintro o ⟨m, k, x3, rfl, hm, hk, h3, he⟩
    dsimp only [Lp.thn]
    rw [d16_36 ⟨m, hm⟩, Option.bind_some]
    unfold lenOk
    rw [if_pos h3, Option.bind_some, hx2 k hk, idx_get (by omega), Option.bind_some, Option.bind_some]
    unfold sub ltOk
    rw [if_pos ⟨by omega, by omega, by rw [List.length_set, h3]; omega⟩, Option.bind_some, if_pos (by omega), Option.bind_some]
    rw [show Int.toNat (((64 - k : Nat) : Int)) = 64 - k by omega, show Int.toNat 65 = 65 from rfl, List.take_of_length_le (by rw [List.length_set, h3]; omega), ← stp m x3 k hm hk h3, he]
theorem hex_eq (n : Nat) (h : n < 4294967296) : listing_hex (n : Int) = some (hexK 8 n) := by
  have hlen := hexm_len 7 n (by omega)
  unfold listing_hex strconv_FormatUint strconv_FormatUint_2
  rw [show IntKind.wrap .u64 (n : Int) = (n : Int) by simp only [IntKind.wrap, IntKind.signed, IntKind.bits]; simp; omega, formatBits_eq n h]
  simp only [show ((16 : Int) == 10) = false from rfl, cond_false, Option.bind_some]
  unfold sub
  rw [if_pos ⟨by omega, by simp only [List.length_cons, List.length_nil]; omega, by omega⟩, Option.bind_some, room_ok (by simp only [List.length_drop, List.length_take, List.length_cons, List.length_nil]; omega), Option.bind_some, ← hex_pad 7 n (by omega)]
  congr 2
  rw [show ([48, 48, 48, 48, 48, 48, 48, 48] : List UInt8) = List.replicate 8 48 from rfl, Int.toNat_natCast, Int.toNat_natCast, List.take_of_length_le (by simp), List.drop_replicate]
theorem rHex_eq (n : Nat) (h : n < 4294967296) : ref06_Hex (n : Int) = some (hexK 8 n) := by
  unfold ref06_Hex
  rw [w64 (by omega)]
  refine loop_bind (fun s => ∃ (m k : Nat), s.2.1 = (m : Int) ∧ s.2.2 = (k : Int) ∧ k ≤ 8 ∧ m < 4294967296 ∧ s.1.length = k ∧ hexK (8 - k) m ++ s.1 = hexK 8 n) (fun s => (8 - s.2.2).toNat) (fun o => ∃ x2 x3, o = .brk (hexK 8 n, x2, x3)) ⟨n, 0, rfl, rfl, by omega, h, rfl, by simp⟩ (NN_big (by simp)) ?_ ?_
  · rintro ⟨x1, x2, x3⟩ ⟨m, k, h1, h2, hk, hm, hl, he⟩
    simp only at h1 h2 hl he
    subst h1 h2
    simp only []
    by_cases h8 : k < 8
    · rw [c1 (dt (by omega)), show Int.tmod (m : Int) 16 = ((m % 16 : Nat) : Int) by rw [Int.tmod_eq_emod_of_nonneg (by omega)]; omega, d16_16 ⟨m % 16, by omega⟩, Option.bind_some, room_ok (by simp only [List.length_cons, List.length_nil]; omega), Option.bind_some,
        Int.tdiv_eq_ediv_of_nonneg (by omega), w64 (by omega), w64 (by omega)]
      refine ⟨_, rfl, ⟨m / 16, k + 1, by simp only; omega, by simp only; omega, by omega, by omega, by simp only [List.length_append, List.length_cons, List.length_nil]; omega, ?_⟩, by simp only; omega⟩
      simp only
      rw [← he, ← List.append_assoc]
      congr 1
      rw [show 8 - k = (8 - (k + 1)) + 1 by omega]
      rfl
    · rw [c0 (df (by omega))]
      have : k = 8 := by omega
      subst this
      exact ⟨_, rfl, _, _, by rw [← he]; rfl⟩
  · rintro o ⟨x2, x3, rfl⟩
    rfl

/-! Reading. -/
theorem p16_app : ∀ (l : List UInt8) (acc u d : Nat) (c : UInt8), parse16 acc l = .ok u → hexVal c = some d → u * 16 + d ≤ 4294967295 → parse16 acc (l ++ [c]) = .ok (u * 16 + d)
  | [], acc, u, d, c, h, hc, hd => by
    simp only [parse16] at h
    injection h with h
    subst h
    simp only [List.nil_append, parse16, hc]
    rw [if_neg (by omega)]
  | b :: l, acc, u, d, c, h, hc, hd => by
    simp only [List.cons_append, parse16] at h ⊢
    cases hb : hexVal b with
    | none => rw [hb] at h; cases h
    | some e =>
      rw [hb] at h
      simp only at h ⊢
      split at h
      · cases h
      · rename_i h0
        rw [if_neg h0]
        exact p16_app l _ u d c h hc hd
theorem p16_hex : ∀ (k n : Nat), n < 16 ^ k → n < 4294967296 → parse16 0 (hexK k n) = .ok n
  | 0, n, h, _ => by
    rw [show n = 0 by simpa using h]
    rfl
  | k + 1, n, h, h2 => by
    unfold hexK
    rw [p16_app _ 0 (n / 16) (n % 16) _ (p16_hex k (n / 16) (by rw [Nat.pow_succ] at h; omega) (by omega)) (d16_val ⟨n % 16, by omega⟩) (by omega)]
    congr 1
    omega
theorem p16_le : ∀ (l : List UInt8) (acc u : Nat), acc ≤ 4294967295 → parse16 acc l = .ok u → u ≤ 4294967295
  | [], acc, u, ha, h => by
    simp only [parse16] at h
    injection h with h
    omega
  | b :: l, acc, u, ha, h => by
    simp only [parse16] at h
    cases hb : hexVal b with
    | none => rw [hb] at h; cases h
    | some e =>
      rw [hb] at h
      simp only at h
      split at h
      · cases h
      · exact p16_le l _ u (by omega) h
theorem ParseUint_hex (n : Nat) (h : n < 4294967296) : strconv_ParseUint (hexK 8 n) 16 32 = some ((n : Int), false) := by
  unfold strconv_ParseUint
  have hl := hexK_len 8 n
  rw [if_pos ⟨by omega, rfl, rfl⟩, if_neg (by intro e; rw [e] at hl; cases hl), p16_hex 8 n (by omega) h]
theorem ParseUint_tot {s : List UInt8} (h : s.length ≤ 2097152) : ∃ (n : Nat) (e : Bool), n < 4294967296 ∧ strconv_ParseUint s 16 32 = some ((n : Int), e) := by
  unfold strconv_ParseUint
  rw [if_pos ⟨by omega, rfl, rfl⟩]
  by_cases h0 : s = []
  · rw [if_pos h0]
    exact ⟨0, true, by omega, rfl⟩
  · rw [if_neg h0]
    rcases hp : parse16 0 s with n | _ | _
    · exact ⟨n, false, by have := p16_le s 0 n (by omega) hp; omega, rfl⟩
    · exact ⟨0, true, by omega, rfl⟩
    · exact ⟨4294967295, true, by omega, rfl⟩
theorem hexK_mem : ∀ (k n : Nat), ∀ c ∈ hexK k n, 48 ≤ c.toNat
  | 0, _, c, h => by cases h
  | k + 1, n, c, h => by
    unfold hexK at h
    rcases List.mem_append.1 h with h | h
    · exact hexK_mem k _ c h
    · rw [List.mem_singleton.1 h]
      exact (show ∀ k : _root_.Fin 16, 48 ≤ (d16 k.val).toNat by decide +kernel) ⟨n % 16, by omega⟩
end Go.Proofs.YtcmncppbonaaeaaGreatDoor
