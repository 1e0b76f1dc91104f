/- Plain laws on words as instructions: the program encodes what it decoded; the reference's words. No program is in sight here. -/
import Derived.Test.YtcmncppbonaaeaaGreatDoorL06g
set_option linter.unusedVariables false
namespace Go.Proofs.YtcmncppbonaaeaaGreatDoor

theorem bif_f {a b : Int} {A : Type} {x y : A} (h : a ≠ b) : (bif a == b then x else y) = y := c0 (by simpa using h)
theorem bif_t {a : Int} {A : Type} {x y : A} : (bif a == a then x else y) = x := c1 (by simp)
theorem mlt {a k p : Nat} (h : a < k) (hp : 0 < p) (hk : k * p ≤ 4294967296) : a * p < 4294967296 := Nat.lt_of_lt_of_le ((Nat.mul_lt_mul_right hp).2 h) hk
theorem orlt {a b : Nat} (ha : a < 4294967296) (hb : b < 4294967296) : a ||| b < 4294967296 := Nat.or_lt_two_pow (n := 32) ha hb
theorem w64_7 {a b c d e f g : Int} (ha : 0 ≤ a ∧ a ≤ 4294967296) (hb : 0 ≤ b ∧ b ≤ 4294967296) (hc : 0 ≤ c ∧ c ≤ 4294967296) (hd : 0 ≤ d ∧ d ≤ 4294967296) (he : 0 ≤ e ∧ e ≤ 4294967296) (hf : 0 ≤ f ∧ f ≤ 4294967296) (hg : 0 ≤ g ∧ g ≤ 4294967296) :
    IntKind.wrap .i64 (IntKind.wrap .i64 (IntKind.wrap .i64 (IntKind.wrap .i64 (IntKind.wrap .i64 (IntKind.wrap .i64 (a + b) + c) + d) + e) + f) + g) = a + b + c + d + e + f + g := by
  rw [w64 (x := a + b) (by omega), w64 (x := a + b + c) (by omega), w64 (x := a + b + c + d) (by omega), w64 (x := a + b + c + d + e) (by omega), w64 (x := a + b + c + d + e + f) (by omega), w64 (by omega)]
theorem jn_bif {κ O : Type} (c : Bool) (a b : κ) (k : κ → Option O) : jn (fun kk => bif c then kk a else kk b) k = k (bif c then a else b) := by cases c <;> rfl
/-- What the reference tells of an instruction of small parts. -/
theorem Word_sum {i : GInst} {c t s d a b n : Nat} (hd : i.Rd = (d : Int)) (ha : i.Rs1 = (a : Int)) (hb : i.Rs2 = (b : Int)) (kc : ref02_Code i.Op = some (c : Int)) (kt : ref02_Third i.Op = some (t : Int)) (ks : ref02_Seventh i.Op = some (s : Int))
    (kn : ref02_Spread (formOf i.Op) i.Imm = some (n : Int)) (h : c + d * 128 + t * 4096 + a * 32768 + b * 1048576 + s * 33554432 + n < 4294967296) :
    ref02_Word i = some ((c + d * 128 + t * 4096 + a * 32768 + b * 1048576 + s * 33554432 + n : Nat) : Int) := by
  unfold ref02_Word
  rw [rForm_eq, Option.bind_some, kc, Option.bind_some, two_eq (by decide), Option.bind_some, kt, Option.bind_some, two_eq (by decide), Option.bind_some, two_eq (by decide), Option.bind_some, two_eq (by decide), Option.bind_some, ks, Option.bind_some, two_eq (by decide), Option.bind_some, kn, Option.bind_some, hd, ha, hb]
  rw [show ((2 ^ Int.toNat 7 : Nat) : Int) = 128 by decide, show ((2 ^ Int.toNat 12 : Nat) : Int) = 4096 by decide, show ((2 ^ Int.toNat 15 : Nat) : Int) = 32768 by decide, show ((2 ^ Int.toNat 20 : Nat) : Int) = 1048576 by decide, show ((2 ^ Int.toNat 25 : Nat) : Int) = 33554432 by decide]
  have e1 : IntKind.wrap .i64 ((d : Int) * 128) = (d : Int) * 128 := w64 (by omega)
  have e2 : IntKind.wrap .i64 ((t : Int) * 4096) = (t : Int) * 4096 := w64 (by omega)
  have e3 : IntKind.wrap .i64 ((a : Int) * 32768) = (a : Int) * 32768 := w64 (by omega)
  have e4 : IntKind.wrap .i64 ((b : Int) * 1048576) = (b : Int) * 1048576 := w64 (by omega)
  have e5 : IntKind.wrap .i64 ((s : Int) * 33554432) = (s : Int) * 33554432 := w64 (by omega)
  rw [e1, e2, e3, e4, e5]
  rw [w64_7 (by omega) (by omega) (by omega) (by omega) (by omega) (by omega) (by omega)]
  have g : (c : Int) + (d : Int) * 128 + (t : Int) * 4096 + (a : Int) * 32768 + (b : Int) * 1048576 + (s : Int) * 33554432 + (n : Int) = ((c + d * 128 + t * 4096 + a * 32768 + b * 1048576 + s * 33554432 + n : Nat) : Int) := by omega
  rw [g, w32u' h]
/-- What the program tells. -/
theorem Enc_or {i : GInst} {x : InstShape} {c t s d a b n : Nat} (hr : rightB i = true) (ho : inst_of i.Op = some x) (kc : x.code = (c : Int)) (kt : x.third = (t : Int)) (ks : x.seventh = (s : Int)) (hd : i.Rd = (d : Int)) (ha : i.Rs1 = (a : Int)) (hb : i.Rs2 = (b : Int))
    (kn : inst_number x.form (IntKind.wrap .u32 i.Imm) = some (n : Int)) (bc : c < 128) (bt : t < 8) (bs : s < 128) (bd : d < 32) (ba : a < 32) (bb : b < 32) (bn : n < 4294967296) :
    inst_Encode i = some ((((((c ||| t * 4096) ||| s * 33554432) ||| ((d * 128 ||| a * 32768) ||| b * 1048576)) ||| n : Nat) : Int), (0 : Int)) := by
  unfold inst_Encode
  have l1 : c < 4294967296 := by omega
  have l2 : t * 4096 < 4294967296 := mlt bt (by decide) (by decide)
  have l3 : s * 33554432 < 4294967296 := mlt bs (by decide) (by decide)
  have l4 : d * 128 < 4294967296 := mlt bd (by decide) (by decide)
  have l5 : a * 32768 < 4294967296 := mlt ba (by decide) (by decide)
  have l6 : b * 1048576 < 4294967296 := mlt bb (by decide) (by decide)
  rw [Right_eq, Option.bind_some, hr, Bool.not_true, cond_false, ho, Option.bind_some, kn, Option.bind_some, kc, kt, ks, hd, ha, hb, w32u' (x := d) (by omega), w32u' (x := a) (by omega), w32u' (x := b) (by omega),
    shP (k := 12) (p := 4096) (by decide) (by decide) l2, shP (k := 25) (p := 33554432) (by decide) (by decide) l3, shP (k := 7) (p := 128) (by decide) (by decide) l4, shP (k := 15) (p := 32768) (by decide) (by decide) l5, shP (k := 20) (p := 1048576) (by decide) (by decide) l6,
    or32n l1 l2, or32n (orlt l1 l2) l3, or32n l4 l5, or32n (orlt l4 l5) l6, or32n (orlt (orlt l1 l2) l3) (orlt (orlt l4 l5) l6), or32n (orlt (orlt (orlt l1 l2) l3) (orlt (orlt l4 l5) l6)) bn]
theorem shW (v : Nat) : IntKind.wrap .u32 ((v : Int) * 2 ^ (min (Int.toNat 20) (IntKind.bits .u32))) = ((v * 1048576 % 4294967296 : Nat) : Int) := by
  rw [show (2 : Int) ^ (min (Int.toNat 20) (IntKind.bits .u32)) = 1048576 from rfl]
  simp only [IntKind.wrap, IntKind.signed, IntKind.bits]
  simp
theorem num82 (v : Int) : inst_number 82 v = some ((0 : Nat) : Int) := rfl
theorem num85 (w : Nat) : inst_number 85 (immN 85 w : Int) = some ((w / 4096 % 1048576 * 4096 : Nat) : Int) := rfl
theorem num73 (w : Nat) : inst_number 73 (immN 73 w : Int) = some ((w / 1048576 % 4096 * 1048576 : Nat) : Int) := by
  unfold inst_number
  rw [bif_f (by decide), bif_f (by decide), jn_bif, bif_t, show ((73 : Int) == 73) = true from rfl]
  rw [cond_true]
  have v : immN 73 w = if 2048 ≤ w / 1048576 % 4096 then w / 1048576 % 4096 + 4294963200 else w / 1048576 % 4096 := rfl
  rw [shW, v]
  refine congrArg (fun z : Nat => some (z : Int)) ?_
  obtain ⟨x, e, h⟩ := fN w 1048576 4096 (by decide)
  rw [e]
  clear e v
  split <;> omega
theorem num72 (w : Nat) : inst_number 72 (immN 72 w : Int) = some ((w / 1048576 % 32 * 1048576 : Nat) : Int) := by
  unfold inst_number
  rw [bif_f (by decide), bif_f (by decide), jn_bif, bif_f (by decide), show ((72 : Int) == 72) = true from rfl]
  rw [cond_true]
  have v : immN 72 w = w / 1048576 % 32 := rfl
  rw [shW, v]
  refine congrArg (fun z : Nat => some (z : Int)) ?_
  obtain ⟨x, e, h⟩ := fN w 1048576 32 (by decide)
  rw [e]
  clear e v
  omega
theorem num74 (w : Nat) : inst_number 74 (immN 74 w : Int) = some ((w / 2147483648 % 2 * 2147483648 ||| w / 2097152 % 1024 * 2097152 ||| w / 1048576 % 2 * 1048576 ||| w / 4096 % 256 * 4096 : Nat) : Int) := by
  have v : immN 74 w = w / 2097152 % 1024 * 2 + w / 1048576 % 2 * 2048 + w / 4096 % 256 * 4096 + w / 2147483648 % 2 * 4293918720 := rfl
  have hN := (immN_at 74 w).1
  unfold inst_number
  rw [bif_f (by decide), bif_t, ibP hN (a := 20) (m := 1) (p := 1048576) (q := 2) (by decide) (by decide) (by decide) (by decide), Option.bind_some, ibP hN (a := 1) (m := 10) (p := 2) (q := 1024) (by decide) (by decide) (by decide) (by decide), Option.bind_some, ibP hN (a := 11) (m := 1) (p := 2048) (q := 2) (by decide) (by decide) (by decide) (by decide), Option.bind_some, ibP hN (a := 12) (m := 8) (p := 4096) (q := 256) (by decide) (by decide) (by decide) (by decide), Option.bind_some]
  rw [v]
  obtain ⟨x, e0, h0⟩ := fN w 2147483648 2 (by decide)
  obtain ⟨y, e1, h1⟩ := fN w 2097152 1024 (by decide)
  obtain ⟨z, e2, h2⟩ := fN w 1048576 2 (by decide)
  obtain ⟨u, e3, h3⟩ := fN w 4096 256 (by decide)
  rw [e0, e1, e2, e3]
  clear e0 e1 e2 e3 v hN
  have l1 : x * 2147483648 < 4294967296 := mlt h0 (by decide) (by decide)
  have l2 : y * 2097152 < 4294967296 := mlt h1 (by decide) (by decide)
  have l3 : z * 1048576 < 4294967296 := mlt h2 (by decide) (by decide)
  have l4 : u * 4096 < 4294967296 := mlt h3 (by decide) (by decide)
  have q1 : (y * 2 + z * 2048 + u * 4096 + x * 4293918720) / 1048576 % 2 = x := by omega
  have q2 : (y * 2 + z * 2048 + u * 4096 + x * 4293918720) / 2 % 1024 = y := by omega
  have q3 : (y * 2 + z * 2048 + u * 4096 + x * 4293918720) / 2048 % 2 = z := by omega
  have q4 : (y * 2 + z * 2048 + u * 4096 + x * 4293918720) / 4096 % 256 = u := by omega
  rw [q1, q2, q3, q4, shP (k := 31) (p := 2147483648) (by decide) (by decide) l1, shP (k := 21) (p := 2097152) (by decide) (by decide) l2, shP (k := 20) (p := 1048576) (by decide) (by decide) l3, shP (k := 12) (p := 4096) (by decide) (by decide) l4, or32n l1 l2, or32n (orlt l1 l2) l3, or32n (orlt (orlt l1 l2) l3) l4]
theorem num66 (w : Nat) : inst_number 66 (immN 66 w : Int) = some ((w / 2147483648 % 2 * 2147483648 ||| w / 33554432 % 64 * 33554432 ||| w / 256 % 16 * 256 ||| w / 128 % 2 * 128 : Nat) : Int) := by
  have v : immN 66 w = w / 33554432 % 64 * 32 + w / 256 % 16 * 2 + w / 128 % 2 * 2048 + w / 2147483648 % 2 * 4294963200 := rfl
  have hN := (immN_at 66 w).1
  unfold inst_number
  rw [bif_f (by decide), bif_f (by decide), jn_bif, bif_f (by decide), show ((66 : Int) == 72) = false from rfl]
  rw [cond_false, bif_f (by decide), bif_t, ibP hN (a := 12) (m := 1) (p := 4096) (q := 2) (by decide) (by decide) (by decide) (by decide), Option.bind_some, ibP hN (a := 5) (m := 6) (p := 32) (q := 64) (by decide) (by decide) (by decide) (by decide), Option.bind_some, ibP hN (a := 1) (m := 4) (p := 2) (q := 16) (by decide) (by decide) (by decide) (by decide), Option.bind_some, ibP hN (a := 11) (m := 1) (p := 2048) (q := 2) (by decide) (by decide) (by decide) (by decide), Option.bind_some]
  rw [v]
  obtain ⟨x, e0, h0⟩ := fN w 2147483648 2 (by decide)
  obtain ⟨y, e1, h1⟩ := fN w 33554432 64 (by decide)
  obtain ⟨z, e2, h2⟩ := fN w 256 16 (by decide)
  obtain ⟨u, e3, h3⟩ := fN w 128 2 (by decide)
  rw [e0, e1, e2, e3]
  clear e0 e1 e2 e3 v hN
  have l1 : x * 2147483648 < 4294967296 := mlt h0 (by decide) (by decide)
  have l2 : y * 33554432 < 4294967296 := mlt h1 (by decide) (by decide)
  have l3 : z * 256 < 4294967296 := mlt h2 (by decide) (by decide)
  have l4 : u * 128 < 4294967296 := mlt h3 (by decide) (by decide)
  have q1 : (y * 32 + z * 2 + u * 2048 + x * 4294963200) / 4096 % 2 = x := by omega
  have q2 : (y * 32 + z * 2 + u * 2048 + x * 4294963200) / 32 % 64 = y := by omega
  have q3 : (y * 32 + z * 2 + u * 2048 + x * 4294963200) / 2 % 16 = z := by omega
  have q4 : (y * 32 + z * 2 + u * 2048 + x * 4294963200) / 2048 % 2 = u := by omega
  rw [q1, q2, q3, q4, shP (k := 31) (p := 2147483648) (by decide) (by decide) l1, shP (k := 25) (p := 33554432) (by decide) (by decide) l2, shP (k := 8) (p := 256) (by decide) (by decide) l3, shP (k := 7) (p := 128) (by decide) (by decide) l4, or32n l1 l2, or32n (orlt l1 l2) l3, or32n (orlt (orlt l1 l2) l3) l4]
theorem num83 (w : Nat) : inst_number 83 (immN 83 w : Int) = some ((w / 33554432 % 128 * 33554432 ||| w / 128 % 32 * 128 : Nat) : Int) := by
  have v : immN 83 w = if 64 ≤ w / 33554432 % 128 then w / 33554432 % 128 * 32 + w / 128 % 32 + 4294963200 else w / 33554432 % 128 * 32 + w / 128 % 32 := rfl
  have hN := (immN_at 83 w).1
  unfold inst_number
  rw [bif_f (by decide), bif_f (by decide), jn_bif, bif_f (by decide), show ((83 : Int) == 72) = false from rfl]
  rw [cond_false, bif_t, ibP hN (a := 5) (m := 7) (p := 32) (q := 128) (by decide) (by decide) (by decide) (by decide), Option.bind_some, ibP hN (a := 0) (m := 5) (p := 1) (q := 32) (by decide) (by decide) (by decide) (by decide), Option.bind_some]
  rw [v]
  obtain ⟨x, e0, h0⟩ := fN w 33554432 128 (by decide)
  obtain ⟨y, e1, h1⟩ := fN w 128 32 (by decide)
  rw [e0, e1]
  clear e0 e1 v hN
  have l1 : x * 33554432 < 4294967296 := mlt h0 (by decide) (by decide)
  have l2 : y * 128 < 4294967296 := mlt h1 (by decide) (by decide)
  have q1 : (if 64 ≤ x then x * 32 + y + 4294963200 else x * 32 + y) / 32 % 128 = x := by split <;> omega
  have q2 : (if 64 ≤ x then x * 32 + y + 4294963200 else x * 32 + y) / 1 % 32 = y := by split <;> omega
  rw [q1, q2, shP (k := 25) (p := 33554432) (by decide) (by decide) l1, shP (k := 7) (p := 128) (by decide) (by decide) l2, or32n l1 l2]
end Go.Proofs.YtcmncppbonaaeaaGreatDoor
